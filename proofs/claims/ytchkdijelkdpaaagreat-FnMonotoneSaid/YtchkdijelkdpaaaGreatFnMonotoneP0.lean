/- The statement FnMonotone holds: plain functions, certificates, laws. Conditions: none. -/
import Derived.Maps.AppendAt
import Derived.Maps.OwnSet
import Derived.Shelf.GgSortFunc.Slice
import Derived.Shelf.GgSortFunc.Tiny
import Derived.Shelf.Slices.In.SortNone2
import Derived.Shelf.Small.Bits
import Derived.Shelf.Sort.Plain
import Derived.Sort.AssemblyPlain
import Derived.Test.YtchkdijelkdpaaaGreatChecked
import Derived.Test.YtchkdijelkdpaaaGreatProg
import Derived.Test.YtchkdijelkdpaaaGreatRows
import Derived.WalkKit
import Derived.Test.YtchkdijelkdpaaaGreatL2
set_option linter.all false
section
namespace Go.Ab
abbrev Cu(f:Fl)(e:Cur):List CV:=[.sl f .byte (Cur.b e),.int .i64 (Cur.i e),.int .i64 (Cur.h e)]
abbrev Va(f:Fl)(e:Val):List CV:=[.int .i64 (Val.kind e),.int .i64 (Val.n e),.int .i64 (Val.step e),.str (Val.text e),.sl f .val (Val.list e),.sl f .str (Val.columns e),.sl f .row (Val.rows e)]
end Go.Ab
end
section
open Go.IntKind (i64)
namespace Go.Ab
def xFv(a0:Int):List Arg:=[.box [.int .u64 a0]]
def xD0(r:Int×Int):CallO:=⟨.v false [.int .u64 r.1],[[.int .u64 r.2]],[]⟩
def xGF(N:Nat)(a0:Int):Option (Int×Int):=some ((xorI .u64 (xorI .u64 (xorI .u64 a0 (IntKind.u64.wrap (a0*2 ^ (Int.toNat 13)))) (Int.fdiv (xorI .u64 a0 (IntKind.u64.wrap (a0*2 ^ (Int.toNat 13)))) ((2:Int) ^ (Int.toNat 7)))) (IntKind.u64.wrap ((xorI .u64 (xorI .u64 a0 (IntKind.u64.wrap (a0*2 ^ (Int.toNat 13)))) (Int.fdiv (xorI .u64 a0 (IntKind.u64.wrap (a0*2 ^ (Int.toNat 13)))) ((2:Int) ^ (Int.toNat 7))))*2 ^ (Int.toNat 17)))),(xorI .u64 (xorI .u64 (xorI .u64 a0 (IntKind.u64.wrap (a0*2 ^ (Int.toNat 13)))) (Int.fdiv (xorI .u64 a0 (IntKind.u64.wrap (a0*2 ^ (Int.toNat 13)))) ((2:Int) ^ (Int.toNat 7)))) (IntKind.u64.wrap ((xorI .u64 (xorI .u64 a0 (IntKind.u64.wrap (a0*2 ^ (Int.toNat 13)))) (Int.fdiv (xorI .u64 a0 (IntKind.u64.wrap (a0*2 ^ (Int.toNat 13)))) ((2:Int) ^ (Int.toNat 7))))*2 ^ (Int.toNat 17)))))
def xLQ(a0:Int):List Arg:=[.val (.v false [.int .u64 a0])]
def xJX(r:Int):CallO:=⟨.v false [.int .i64 r],[],[]⟩
def xLC(N:Nat)(a0:Int):Option Int:=zFJ a0
def xGs(a0:Int):List Arg:=[.val (.v false [.int .i64 a0])]
def xE3(r:Int):CallO:=⟨.v false [.int .u64 r],[],[]⟩
def xGh(N:Nat)(a0:Int):Option (Int):=(xLC N (IntKind.u64.wrap (a0))).bind fun r1=>if(0:Int)≤(IntKind.u64.wrap (r1))∧(IntKind.u64.wrap (r1))<64 then some (IntKind.u64.wrap (1*2 ^ (Int.toNat (IntKind.u64.wrap (r1))))) else none
def xAV(a0 a1:Int)(a2:List Org):List Arg:=[.val (.v false [.int .i64 a0]),.val (.v false [.int .i64 a1]),.val (.v false [.sl (.lnt 0) .org a2]),.val (.v false [.val (.pointer (some ⟨0,80,none⟩))])]
def xAu(r:(List Org)):CallO:=⟨.tup [],[],[.sl (.lnt 0) .org r]⟩
def xAJ(N:Nat)(a0 a1:Int)(a2:List Org):Option (List Org):=zI8 a0 a1 a2
def xC9(a0:Int)(a1:Int)(a2:List Org):List Arg:=[.val (.v true [.clo 64 [1000003],.swp 141 0 (.pointer (some ⟨0,80,none⟩)) 1000003]),.val (.v false [.int .i64 a0]),.val (.v false [.int .i64 a1]),.gbox [.sl (.lnt 0) .org a2]]
def xBW(r:(List Org)):CallO:=⟨.tup [],[[.sl (.lnt 0) .org r]],[]⟩
def xBV(N:Nat):Nat→Int→Int→(List Org)→Option ((List Org))
 |0,_,_,_=>none
 |n+1,x6,x7,g003=>bif(decide (x6<x7)) then((xAJ N x6 x7 g003).bind fun r1=>if 2≤g003.length then if r1.length=g003.length then(xBV N n (i64.wrap (x6+1)) (i64.wrap (x7 - 1)) r1) else none else none) else(some g003)
def xCD(N:Nat)(a0:Int)(a1:Int)(a2:List Org):Option ((List Org)):=(xBV N N a0 (i64.wrap (a1 - 1)) a2)
def xCm(a0:Int)(a1:Int)(a2:List Org):List Arg:=[.val (.v true [.clo 64 [1000003],.swp 141 0 (.pointer (some ⟨0,80,none⟩)) 1000003]),.val (.v false [.int .i64 a0]),.val (.v false [.int .i64 a1]),.gbox [.sl (.lnt 0) .org a2]]
def xBA(r:(List Org)):CallO:=⟨.tup [],[[.sl (.lnt 0) .org r]],[]⟩
def xBz(N:Nat):Nat→Int→Int→Int→Int→Int→(List Org)→Option ((List Org))
 |0,_,_,_,_,_,_=>none
 |n+1,x1,x6,x8,x9,b7,g003=>bif(decide (x9≤(i64.wrap ((i64.wrap (x1+(i64.wrap ((i64.wrap (Int.tdiv x6 4))*2))))+1)))) then((xGF N b7).bind fun r1=>bif(decide (((i64.wrap ((andI .u64 r1.1 (IntKind.u64.wrap (x8 - 1))))):Int)≥x6)) then((xAJ N x9 (i64.wrap (x1+(i64.wrap ((i64.wrap ((andI .u64 r1.1 (IntKind.u64.wrap (x8 - 1))))) - x6)))) g003).bind fun r2=>if 2≤g003.length then if r2.length=g003.length then(xBz N n x1 x6 x8 (i64.wrap (x9+1)) r1.2 r2) else none else none) else((xAJ N x9 (i64.wrap (x1+(i64.wrap ((andI .u64 r1.1 (IntKind.u64.wrap (x8 - 1))))))) g003).bind fun r2=>if 2≤g003.length then if r2.length=g003.length then(xBz N n x1 x6 x8 (i64.wrap (x9+1)) r1.2 r2) else none else none)) else(some g003)
def xCv(N:Nat)(a0:Int)(a1:Int)(a2:List Org):Option ((List Org)):=bif(decide ((i64.wrap (a1 - a0))≥8)) then((xGh N (i64.wrap (a1 - a0))).bind fun r1=>(xBz N N a0 (i64.wrap (a1 - a0)) r1 (i64.wrap ((i64.wrap (a0+(i64.wrap ((i64.wrap (Int.tdiv (i64.wrap (a1 - a0)) 4))*2)))) - 1)) (IntKind.u64.wrap ((i64.wrap (a1 - a0)))) a2)) else(some a2)
def xDQ(a0:Org)(a1:Org):List Arg:=[.val (.v true [.int .i64 a0.cell,.int .i64 a0.row]),.val (.v true [.int .i64 a1.cell,.int .i64 a1.row])]
def xCJ(r:Bool):CallO:=⟨.v false [.bool r],[],[]⟩
def xFa(N:Nat)(a0:Org)(a1:Org):Option (Bool):=bif(decide (a0.cell<a1.cell)) then(some true) else(bif(a0.cell==a1.cell) then(some (decide (a0.row<a1.row))) else(some false))
def xBH(a0:Int)(a1:Int)(a2:List Org):List Arg:=[.val (.v false [.int .i64 a0]),.val (.v false [.int .i64 a1]),.box [.sl (.lnt 0) .org a2]]
def xAB(r:Bool×(List Org)):CallO:=⟨.v false [.bool r.1],[[.sl (.lnt 0) .org r.2]],[]⟩
def xBh(N:Nat)(a0:Int)(a1:Int)(a2:List Org):Option (Bool×(List Org)):=if(0:Int)≤a0∧a0<a2.length then if(0:Int)≤a1∧a1<a2.length then(xFa N (a2.getD a0.toNat Ty.org.dflt) (a2.getD a1.toNat Ty.org.dflt)).bind fun r1=>some (r1,a2) else none else none
def xCC(a0:Int)(a1:Int)(a2:Int)(a3:List Org):List Arg:=[.val (.v true [.clo 64 [1000004],.swp 141 0 (.pointer (some ⟨0,80,none⟩)) 1000004]),.val (.v false [.int .i64 a0]),.val (.v false [.int .i64 a1]),.val (.v false [.int .i64 a2]),.gbox [.sl (.lnt 0) .org a3]]
def xAW(r:Int×Bool×(List Org)):CallO:=⟨.tup [(false,[.int .i64 r.1]),(false,[.bool r.2.1])],[[.sl (.lnt 0) .org r.2.2]],[]⟩
def xBu(N:Nat)(k13:Int→Int→Int→(List Org)→Option (Int×Bool×(List Org))):Nat→Int→Int→Int→(List Org)→Option (Int×Bool×(List Org))
 |0,_,_,_,_=>none
 |n+1,x1,x10,x11,g004=>bif(decide (x10≤x11)) then((xBh N x11 x1 g004).bind fun r1=>bif(!r1.1) then((xBu N k13 n x1 x10 (i64.wrap (x11 - 1)) r1.2)) else(bif(decide (x10>x11)) then((xAJ N x11 x1 r1.2).bind fun r2=>if 2≤r1.2.length then if r2.length=r1.2.length then some (x11,false,r2) else none else none) else((xAJ N x10 x11 r1.2).bind fun r2=>if 2≤r1.2.length then if r2.length=r1.2.length then(k13 x1 (i64.wrap (x10+1)) (i64.wrap (x11 - 1)) r2) else none else none))) else(bif(decide (x10>x11)) then((xAJ N x11 x1 g004).bind fun r1=>if 2≤g004.length then if r1.length=g004.length then some (x11,false,r1) else none else none) else((xAJ N x10 x11 g004).bind fun r1=>if 2≤g004.length then if r1.length=g004.length then(k13 x1 (i64.wrap (x10+1)) (i64.wrap (x11 - 1)) r1) else none else none))
def xBa(N:Nat):Nat→Int→Int→Int→(List Org)→Option (Int×Bool×(List Org))
 |0,_,_,_,_=>none
 |n+1,x1,x10,x11,g004=>bif(decide (x10≤x11)) then((xBh N x10 x1 g004).bind fun r1=>bif r1.1 then((xBa N n x1 (i64.wrap (x10+1)) x11 r1.2)) else((xBu N (fun z0 z1 z2 z3=>(xBa N n z0 z1 z2 z3)) N x1 x10 x11 r1.2))) else((xBu N (fun z0 z1 z2 z3=>(xBa N n z0 z1 z2 z3)) N x1 x10 x11 g004))
def xBy(N:Nat):Nat→Int→Int→Int→(List Org)→Option (Int×Bool×(List Org))
 |0,_,_,_,_=>none
 |n+1,x1,x10,x11,g004=>bif(decide (x10≤x11)) then((xBh N x11 x1 g004).bind fun r1=>bif(!r1.1) then((xBy N n x1 x10 (i64.wrap (x11 - 1)) r1.2)) else(bif(decide (x10>x11)) then((xAJ N x11 x1 r1.2).bind fun r2=>if 2≤r1.2.length then if r2.length=r1.2.length then some (x11,true,r2) else none else none) else((xAJ N x10 x11 r1.2).bind fun r2=>if 2≤r1.2.length then if r2.length=r1.2.length then(xBa N N x1 (i64.wrap (x10+1)) (i64.wrap (x11 - 1)) r2) else none else none))) else(bif(decide (x10>x11)) then((xAJ N x11 x1 g004).bind fun r1=>if 2≤g004.length then if r1.length=g004.length then some (x11,true,r1) else none else none) else((xAJ N x10 x11 g004).bind fun r1=>if 2≤g004.length then if r1.length=g004.length then(xBa N N x1 (i64.wrap (x10+1)) (i64.wrap (x11 - 1)) r1) else none else none))
def xCa(N:Nat):Nat→Int→Int→Int→(List Org)→Option (Int×Bool×(List Org))
 |0,_,_,_,_=>none
 |n+1,x1,x10,x11,g004=>bif(decide (x10≤x11)) then((xBh N x10 x1 g004).bind fun r1=>bif r1.1 then((xCa N n x1 (i64.wrap (x10+1)) x11 r1.2)) else((xBy N N x1 x10 x11 r1.2))) else((xBy N N x1 x10 x11 g004))
def xC6(N:Nat)(a0:Int)(a1:Int)(a2:Int)(a3:List Org):Option (Int×Bool×(List Org)):=(xAJ N a0 a2 a3).bind fun r1=>if 2≤a3.length then if r1.length=a3.length then(xCa N N a0 (i64.wrap (a0+1)) (i64.wrap (a1 - 1)) r1) else none else none
def xCT(a0:Int)(a1:Int)(a2:Int)(a3:List Org):List Arg:=[.val (.v true [.clo 64 [1000004],.swp 141 0 (.pointer (some ⟨0,80,none⟩)) 1000004]),.val (.v false [.int .i64 a0]),.val (.v false [.int .i64 a1]),.val (.v false [.int .i64 a2]),.gbox [.sl (.lnt 0) .org a3]]
def xA8(r:Int×(List Org)):CallO:=⟨.v false [.int .i64 r.1],[[.sl (.lnt 0) .org r.2]],[]⟩
def xBl(N:Nat)(k3:Int→Int→Int→(List Org)→Option (Int×(List Org))):Nat→Int→Int→Int→(List Org)→Option (Int×(List Org))
 |0,_,_,_,_=>none
 |n+1,x1,x9,x10,g004=>bif(decide (x9≤x10)) then((xBh N x1 x10 g004).bind fun r1=>bif r1.1 then((xBl N k3 n x1 x9 (i64.wrap (x10 - 1)) r1.2)) else(bif(decide (x9>x10)) then(some (x9,r1.2)) else((xAJ N x9 x10 r1.2).bind fun r2=>if 2≤r1.2.length then if r2.length=r1.2.length then(k3 x1 (i64.wrap (x9+1)) (i64.wrap (x10 - 1)) r2) else none else none))) else(bif(decide (x9>x10)) then(some (x9,g004)) else((xAJ N x9 x10 g004).bind fun r1=>if 2≤g004.length then if r1.length=g004.length then(k3 x1 (i64.wrap (x9+1)) (i64.wrap (x10 - 1)) r1) else none else none))
def xBk(N:Nat):Nat→Int→Int→Int→(List Org)→Option (Int×(List Org))
 |0,_,_,_,_=>none
 |n+1,x1,x9,x10,g004=>bif(decide (x9≤x10)) then((xBh N x1 x9 g004).bind fun r1=>bif(!r1.1) then((xBk N n x1 (i64.wrap (x9+1)) x10 r1.2)) else((xBl N (fun z0 z1 z2 z3=>(xBk N n z0 z1 z2 z3)) N x1 x9 x10 r1.2))) else((xBl N (fun z0 z1 z2 z3=>(xBk N n z0 z1 z2 z3)) N x1 x9 x10 g004))
def xCu(N:Nat)(a0:Int)(a1:Int)(a2:Int)(a3:List Org):Option (Int×(List Org)):=(xAJ N a0 a2 a3).bind fun r1=>if 2≤a3.length then if r1.length=a3.length then(xBk N N a0 (i64.wrap (a0+1)) (i64.wrap (a1 - 1)) r1) else none else none
def xBM(a0:Int)(a1:Int)(a2:List Org):List Arg:=[.val (.v true [.clo 64 [1000003],.swp 141 0 (.pointer (some ⟨0,80,none⟩)) 1000003]),.val (.v false [.int .i64 a0]),.val (.v false [.int .i64 a1]),.gbox [.sl (.lnt 0) .org a2]]
def xAC(r:Bool×(List Org)):CallO:=⟨.v false [.bool r.1],[[.sl (.lnt 0) .org r.2]],[]⟩
def xBt(N:Nat)(k3:Int→Int→Int→Int→(List Org)→Option (Bool×(List Org))):Nat→Int→Int→Int→Int→Int→(List Org)→Option (Bool×(List Org))
 |0,_,_,_,_,_,_=>none
 |n+1,x1,x2,x7,x8,x10,g003=>bif(decide (x10<x2)) then((xBh N x10 (i64.wrap (x10 - 1)) g003).bind fun r1=>bif(!r1.1) then((k3 x1 x2 x7 (i64.wrap (x8+1)) r1.2)) else((xAJ N x10 (i64.wrap (x10 - 1)) r1.2).bind fun r2=>if 2≤r1.2.length then if r2.length=r1.2.length then(xBt N k3 n x1 x2 x7 x8 (i64.wrap (x10+1)) r2) else none else none)) else((k3 x1 x2 x7 (i64.wrap (x8+1)) g003))
def xBg(N:Nat)(k3:Int→Int→Int→Int→(List Org)→Option (Bool×(List Org)))(x1:Int)(x2:Int)(x7:Int)(x8:Int)(g003:List Org):Option (Bool×(List Org)):=bif(decide ((i64.wrap (x2 - x7))≥2)) then((xBt N k3 N x1 x2 x7 x8 (i64.wrap (x7+1)) g003)) else((k3 x1 x2 x7 (i64.wrap (x8+1)) g003))
def xBs(N:Nat)(k3:Int→Int→Int→Int→(List Org)→Option (Bool×(List Org))):Nat→Int→Int→Int→Int→Int→(List Org)→Option (Bool×(List Org))
 |0,_,_,_,_,_,_=>none
 |n+1,x1,x2,x7,x8,x9,g003=>bif(decide (x9≥1)) then((xBh N x9 (i64.wrap (x9 - 1)) g003).bind fun r1=>bif(!r1.1) then((xBg N k3 x1 x2 x7 x8 r1.2)) else((xAJ N x9 (i64.wrap (x9 - 1)) r1.2).bind fun r2=>if 2≤r1.2.length then if r2.length=r1.2.length then(xBs N k3 n x1 x2 x7 x8 (i64.wrap (x9 - 1)) r2) else none else none)) else((xBg N k3 x1 x2 x7 x8 g003))
def xBw(N:Nat)(k3:Int→Int→Int→Int→(List Org)→Option (Bool×(List Org)))(x1:Int)(x2:Int)(x7:Int)(x8:Int)(g003:List Org):Option (Bool×(List Org)):=bif(x7==x2) then(some (true,g003)) else(bif(decide ((i64.wrap (x2 - x1))<50)) then(some (false,g003)) else((xAJ N x7 (i64.wrap (x7 - 1)) g003).bind fun r1=>if 2≤g003.length then if r1.length=g003.length then bif(decide ((i64.wrap (x7 - x1))≥2)) then((xBs N k3 N x1 x2 x7 x8 (i64.wrap (x7 - 1)) r1)) else((xBg N k3 x1 x2 x7 x8 r1)) else none else none))
def xBv(N:Nat)(k3:Int→Int→Int→Int→(List Org)→Option (Bool×(List Org))):Nat→Int→Int→Int→Int→(List Org)→Option (Bool×(List Org))
 |0,_,_,_,_,_=>none
 |n+1,x1,x2,x7,x8,g003=>bif(decide (x7<x2)) then((xBh N x7 (i64.wrap (x7 - 1)) g003).bind fun r1=>bif(!r1.1) then((xBv N k3 n x1 x2 (i64.wrap (x7+1)) x8 r1.2)) else((xBw N k3 x1 x2 x7 x8 r1.2))) else((xBw N k3 x1 x2 x7 x8 g003))
def xBi(N:Nat):Nat→Int→Int→Int→Int→(List Org)→Option (Bool×(List Org))
 |0,_,_,_,_,_=>none
 |n+1,x1,x2,x7,x8,g003=>bif(decide (x8<5)) then((xBv N (fun z0 z1 z2 z3 z4=>(xBi N n z0 z1 z2 z3 z4)) N x1 x2 x7 x8 g003)) else(some (false,g003))
def xB3(N:Nat)(a0:Int)(a1:Int)(a2:List Org):Option (Bool×(List Org)):=(xBi N N a0 a1 (i64.wrap (a0+1)) 0 a2)
def xB6(a0:Int)(a1:Int)(a2:Int)(a3:List Org):List Arg:=[.val (.v true [.clo 64 [1000004],.swp 141 0 (.pointer (some ⟨0,80,none⟩)) 1000004]),.val (.v false [.int .i64 a0]),.val (.v false [.int .i64 a1]),.box [.int .i64 a2],.gbox [.sl (.lnt 0) .org a3]]
def xBn(r:Int×Int×Int×(List Org)):CallO:=⟨.tup [(false,[.int .i64 r.1]),(false,[.int .i64 r.2.1])],[[.int .i64 r.2.2.1],[.sl (.lnt 0) .org r.2.2.2]],[]⟩
def xCo(N:Nat)(a0:Int)(a1:Int)(a2:Int)(a3:List Org):Option (Int×Int×Int×(List Org)):=(xBh N a1 a0 a3).bind fun r1=>bif r1.1 then(some (a1,a0,(i64.wrap (a2+1)),r1.2)) else(some (a0,a1,a2,r1.2))
def xBF(a0:Int)(a1:Int)(a2:Int)(a3:Int)(a4:List Org):List Arg:=[.val (.v true [.clo 64 [1000005],.swp 141 0 (.pointer (some ⟨0,80,none⟩)) 1000005]),.val (.v false [.int .i64 a0]),.val (.v false [.int .i64 a1]),.val (.v false [.int .i64 a2]),.box [.int .i64 a3],.gbox [.sl (.lnt 0) .org a4]]
def xAY(r:Int×Int×(List Org)):CallO:=⟨.v false [.int .i64 r.1],[[.int .i64 r.2.1],[.sl (.lnt 0) .org r.2.2]],[]⟩
def xCn(N:Nat)(a0:Int)(a1:Int)(a2:Int)(a3:Int)(a4:List Org):Option (Int×Int×(List Org)):=(xCo N a0 a1 a3 a4).bind fun r1=>(xCo N r1.2.1 a2 r1.2.2.1 r1.2.2.2).bind fun r2=>(xCo N r1.1 r2.1 r2.2.2.1 r2.2.2.2).bind fun r3=>some (r3.2.1,r3.2.2.1,r3.2.2.2)
def xBJ(a0:Int)(a1:Int)(a2:List Org):List Arg:=[.val (.v true [.clo 64 [1000003],.swp 141 0 (.pointer (some ⟨0,80,none⟩)) 1000003]),.val (.v false [.int .i64 a0]),.box [.int .i64 a1],.gbox [.sl (.lnt 0) .org a2]]
def xAQ(r:Int×Int×(List Org)):CallO:=⟨.v false [.int .i64 r.1],[[.int .i64 r.2.1],[.sl (.lnt 0) .org r.2.2]],[]⟩
def xBE(N:Nat)(a0:Int)(a1:Int)(a2:List Org):Option (Int×Int×(List Org)):=(xCn N (i64.wrap (a0 - 1)) a0 (i64.wrap (a0+1)) a1 a2).bind fun r1=>some (r1.1,r1.2.1,r1.2.2)
def xAX(a0:Int)(a1:Int)(a2:List Org):List Arg:=[.val (.v true [.clo 64 [1000003],.swp 141 0 (.pointer (some ⟨0,80,none⟩)) 1000003]),.val (.v false [.int .i64 a0]),.val (.v false [.int .i64 a1]),.gbox [.sl (.lnt 0) .org a2]]
def xAT(r:Int×Int×(List Org)):CallO:=⟨.tup [(false,[.int .i64 r.1]),(false,[.int .i64 r.2.1])],[[.sl (.lnt 0) .org r.2.2]],[]⟩
def xCO(N:Nat)(a0:Int)(a1:Int)(a2:List Org):Option (Int×Int×(List Org)):=bif(decide ((i64.wrap (a1 - a0))≥8)) then(bif(decide ((i64.wrap (a1 - a0))≥50)) then((xBE N (i64.wrap (a0+(i64.wrap ((i64.wrap (Int.tdiv (i64.wrap (a1 - a0)) 4))*1)))) 0 a2).bind fun r1=>(xBE N (i64.wrap (a0+(i64.wrap ((i64.wrap (Int.tdiv (i64.wrap (a1 - a0)) 4))*2)))) r1.2.1 r1.2.2).bind fun r2=>(xBE N (i64.wrap (a0+(i64.wrap ((i64.wrap (Int.tdiv (i64.wrap (a1 - a0)) 4))*3)))) r2.2.1 r2.2.2).bind fun r3=>(xCn N r1.1 r2.1 r3.1 r3.2.1 r3.2.2).bind fun r4=>bif(r4.2.1==0) then(some (r4.1,1,r4.2.2)) else(bif(r4.2.1==12) then(some (r4.1,2,r4.2.2)) else(some (r4.1,0,r4.2.2)))) else((xCn N (i64.wrap (a0+(i64.wrap ((i64.wrap (Int.tdiv (i64.wrap (a1 - a0)) 4))*1)))) (i64.wrap (a0+(i64.wrap ((i64.wrap (Int.tdiv (i64.wrap (a1 - a0)) 4))*2)))) (i64.wrap (a0+(i64.wrap ((i64.wrap (Int.tdiv (i64.wrap (a1 - a0)) 4))*3)))) 0 a2).bind fun r1=>bif(r1.2.1==0) then(some (r1.1,1,r1.2.2)) else(bif(r1.2.1==12) then(some (r1.1,2,r1.2.2)) else(some (r1.1,0,r1.2.2))))) else(bif((0:Int)==0) then(some ((i64.wrap (a0+(i64.wrap ((i64.wrap (Int.tdiv (i64.wrap (a1 - a0)) 4))*2)))),1,a2)) else(bif((0:Int)==12) then(some ((i64.wrap (a0+(i64.wrap ((i64.wrap (Int.tdiv (i64.wrap (a1 - a0)) 4))*2)))),2,a2)) else(some ((i64.wrap (a0+(i64.wrap ((i64.wrap (Int.tdiv (i64.wrap (a1 - a0)) 4))*2)))),0,a2)
     )))
def xCS(a0:Int)(a1:Int)(a2:Int)(a3:List Org):List Arg:=[.val (.v true [.clo 64 [1000004],.swp 141 0 (.pointer (some ⟨0,80,none⟩)) 1000004]),.val (.v false [.int .i64 a0]),.val (.v false [.int .i64 a1]),.val (.v false [.int .i64 a2]),.gbox [.sl (.lnt 0) .org a3]]
def xA3(r:(List Org)):CallO:=⟨.tup [],[[.sl (.lnt 0) .org r]],[]⟩
def xBB(N:Nat):Nat→Int→Int→Int→(List Org)→Option ((List Org))
 |0,_,_,_,_=>none
 |n+1,x2,x3,x8,g004=>bif(decide (((i64.wrap ((i64.wrap (2*x8))+1)):Int)≥x2)) then(some g004) else(bif(decide (((i64.wrap ((i64.wrap ((i64.wrap (2*x8))+1))+1)):Int)<x2)) then((xBh N (i64.wrap (x3+(i64.wrap ((i64.wrap (2*x8))+1)))) (i64.wrap ((i64.wrap (x3+(i64.wrap ((i64.wrap (2*x8))+1))))+1)) g004).bind fun r1=>bif r1.1 then((xBh N (i64.wrap (x3+x8)) (i64.wrap (x3+(i64.wrap ((i64.wrap ((i64.wrap (2*x8))+1))+1)))) r1.2).bind fun r2=>bif(!r2.1) then(some r2.2) else((xAJ N (i64.wrap (x3+x8)) (i64.wrap (x3+(i64.wrap ((i64.wrap ((i64.wrap (2*x8))+1))+1)))) r2.2).bind fun r3=>if 2≤r2.2.length then if r3.length=r2.2.length then(xBB N n x2 x3 (i64.wrap ((i64.wrap ((i64.wrap (2*x8))+1))+1)) r3) else none else none)) else((xBh N (i64.wrap (x3+x8)) (i64.wrap (x3+(i64.wrap ((i64.wrap (2*x8))+1)))) r1.2).bind fun r2=>bif(!r2.1) then(some r2.2) else((xAJ N (i64.wrap (x3+x8)) (i64.wrap (x3+(i64.wrap ((i64.wrap (2*x8))+1)))) r2.2).bind fun r3=>if 2≤r2.2.length then if r3.length=r2.2.length then(xBB N n x2 x3 (i64.wrap ((i64.wrap (2*x8))+1)) r3) else none else none))) else((xBh N (i64.wrap (x3+x8)) (i64.wrap (x3+(i64.wrap ((i64.wrap (2*x8))+1)))) g004).bind fun r1=>bif(!r1.1) then(some r1.2) else((xAJ N (i64.wrap (x3+x8)) (i64.wrap (x3+(i64.wrap ((i64.wrap (2*x8))+1)))) r1.2).bind fun r2=>
      if 2≤r1.2.length then if r2.length=r1.2.length then(xBB N n x2 x3 (i64.wrap ((i64.wrap (2*x8))+1)) r2) else none else none)))
def xB8(N:Nat)(a0:Int)(a1:Int)(a2:Int)(a3:List Org):Option ((List Org)):=(xBB N N a1 a2 a0 a3)
def xDr(a0:Int)(a1:Int)(a2:List Org):List Arg:=[.val (.v true [.clo 64 [1000003],.swp 141 0 (.pointer (some ⟨0,80,none⟩)) 1000003]),.val (.v false [.int .i64 a0]),.val (.v false [.int .i64 a1]),.gbox [.sl (.lnt 0) .org a2]]
def xBQ(r:(List Org)):CallO:=⟨.tup [],[[.sl (.lnt 0) .org r]],[]⟩
def xCi(N:Nat):Nat→Int→Int→Int→(List Org)→Option ((List Org))
 |0,_,_,_,_=>none
 |n+1,x6,x7,x10,g003=>bif(decide (x10≥0)) then((xAJ N x6 (i64.wrap (x6+x10)) g003).bind fun r1=>if 2≤g003.length then if r1.length=g003.length then(xB8 N x7 x10 x6 r1).bind fun r2=>(xCi N n x6 x7 (i64.wrap (x10 - 1)) r2) else none else none) else(some g003)
def xCh(N:Nat):Nat→Int→Int→Int→Int→(List Org)→Option ((List Org))
 |0,_,_,_,_,_=>none
 |n+1,x6,x7,x8,x9,g003=>bif(decide (x9≥0)) then((xB8 N x9 x8 x6 g003).bind fun r1=>(xCh N n x6 x7 x8 (i64.wrap (x9 - 1)) r1)) else((xCi N N x6 x7 (i64.wrap (x8 - 1)) g003))
def xDd(N:Nat)(a0:Int)(a1:Int)(a2:List Org):Option ((List Org)):=(xCh N N a0 0 (i64.wrap (a1 - a0)) (i64.wrap (Int.tdiv (i64.wrap ((i64.wrap (a1 - a0)) - 1)) 2)) a2)
def xC3(a0:Int)(a1:Int)(a2:List Org):List Arg:=[.val (.v true [.clo 64 [1000003],.swp 141 0 (.pointer (some ⟨0,80,none⟩)) 1000003]),.val (.v false [.int .i64 a0]),.val (.v false [.int .i64 a1]),.gbox [.sl (.lnt 0) .org a2]]
def xBo(r:(List Org)):CallO:=⟨.tup [],[[.sl (.lnt 0) .org r]],[]⟩
def xBP(N:Nat)(k2:Int→Int→Int→(List Org)→Option ((List Org))):Nat→Int→Int→Int→Int→(List Org)→Option ((List Org))
 |0,_,_,_,_,_=>none
 |n+1,x1,x2,x6,x7,g003=>bif(decide (x7>x1)) then((xBh N x7 (i64.wrap (x7 - 1)) g003).bind fun r1=>bif r1.1 then((xAJ N x7 (i64.wrap (x7 - 1)) r1.2).bind fun r2=>if 2≤r1.2.length then if r2.length=r1.2.length then(xBP N k2 n x1 x2 x6 (i64.wrap (x7 - 1)) r2) else none else none) else((k2 x1 x2 (i64.wrap (x6+1)) r1.2))) else((k2 x1 x2 (i64.wrap (x6+1)) g003))
def xBO(N:Nat):Nat→Int→Int→Int→(List Org)→Option ((List Org))
 |0,_,_,_,_=>none
 |n+1,x1,x2,x6,g003=>bif(decide (x6<x2)) then((xBP N (fun z0 z1 z2 z3=>(xBO N n z0 z1 z2 z3)) N x1 x2 x6 x6 g003)) else(some g003)
def xCw(N:Nat)(a0:Int)(a1:Int)(a2:List Org):Option ((List Org)):=(xBO N N a0 a1 (i64.wrap (a0+1)) a2)
def xBX(a0:Int)(a1:Int)(a2:Int)(a3:List Org):List Arg:=[.val (.v true [.clo 64 [1000004],.swp 141 0 (.pointer (some ⟨0,80,none⟩)) 1000004]),.val (.v false [.int .i64 a0]),.val (.v false [.int .i64 a1]),.val (.v false [.int .i64 a2]),.gbox [.sl (.lnt 0) .org a3]]
def xAO(r:(List Org)):CallO:=⟨.tup [],[[.sl (.lnt 0) .org r]],[]⟩
def xCR(N:Nat)(q0:Int→Int→Int→(List Org)→Option ((List Org)))(k3:Int→Int→Int→Bool→Bool→(List Org)→Option ((List Org)))(x1:Int)(x2:Int)(x3:Int)(x10:Int)(x11:Int)(g004:List Org):Option ((List Org)):=(xC6 N x1 x2 x11 g004).bind fun r1=>bif(decide ((i64.wrap (r1.1 - x1))<(i64.wrap (x2 - r1.1)))) then((q0 x1 r1.1 x3 r1.2.2).bind fun r2=>(k3 (i64.wrap (r1.1+1)) x2 x3 (decide ((i64.wrap (r1.1 - x1))≥(i64.wrap (Int.tdiv x10 8)))) r1.2.1 r2)) else((q0 (i64.wrap (r1.1+1)) x2 x3 r1.2.2).bind fun r2=>(k3 x1 r1.1 x3 (decide ((i64.wrap (x2 - r1.1))≥(i64.wrap (Int.tdiv x10 8)))) r1.2.1 r2))
def xBR(N:Nat)(q0:Int→Int→Int→(List Org)→Option ((List Org)))(k3:Int→Int→Int→Bool→Bool→(List Org)→Option ((List Org)))(x1:Int)(x2:Int)(x3:Int)(x8:Bool)(x9:Bool)(x10:Int)(x11:Int)(g004:List Org):Option ((List Org)):=bif(decide (x1>0)) then((xBh N (i64.wrap (x1 - 1)) x11 g004).bind fun r1=>bif(!r1.1) then((xCu N x1 x2 x11 r1.2).bind fun r2=>(k3 r2.1 x2 x3 x8 x9 r2.2)) else((xCR N q0 k3 x1 x2 x3 x10 x11 r1.2))) else((xCR N q0 k3 x1 x2 x3 x10 x11 g004))
def xCQ(N:Nat)(q0:Int→Int→Int→(List Org)→Option ((List Org)))(k3:Int→Int→Int→Bool→Bool→(List Org)→Option ((List Org)))(x1:Int)(x2:Int)(x3:Int)(x8:Bool)(x9:Bool)(x10:Int)(x11:Int)(x12:Int)(g004:List Org):Option ((List Org)):=bif x8 then(bif x9 then(bif(x12==1) then((xB3 N x1 x2 g004).bind fun r1=>bif r1.1 then(some r1.2) else((xBR N q0 k3 x1 x2 x3 x8 x9 x10 x11 r1.2))) else((xBR N q0 k3 x1 x2 x3 x8 x9 x10 x11 g004))) else((xBR N q0 k3 x1 x2 x3 x8 x9 x10 x11 g004))) else((xBR N q0 k3 x1 x2 x3 x8 x9 x10 x11 g004))
def xCP(N:Nat)(q0:Int→Int→Int→(List Org)→Option ((List Org)))(k3:Int→Int→Int→Bool→Bool→(List Org)→Option ((List Org)))(x1:Int)(x2:Int)(x3:Int)(x8:Bool)(x9:Bool)(x10:Int)(g004:List Org):Option ((List Org)):=(xCO N x1 x2 g004).bind fun r1=>bif(r1.2.1==2) then((xCD N x1 x2 r1.2.2).bind fun r2=>(xCQ N q0 k3 x1 x2 x3 x8 x9 x10 (i64.wrap ((i64.wrap (x2 - 1)) - (i64.wrap (r1.1 - x1)))) 1 r2)) else((xCQ N q0 k3 x1 x2 x3 x8 x9 x10 r1.1 r1.2.1 r1.2.2))
def xBY(N:Nat)(q0:Int→Int→Int→(List Org)→Option ((List Org))):Nat→Int→Int→Int→Bool→Bool→(List Org)→Option ((List Org))
 |0,_,_,_,_,_,_=>none
 |n+1,x1,x2,x3,x8,x9,g004=>bif(decide ((i64.wrap (x2 - x1))≤12)) then((xCw N x1 x2 g004).bind fun r1=>some r1) else(bif(x3==0) then((xDd N x1 x2 g004).bind fun r1=>some r1) else(bif(!x8) then((xCv N x1 x2 g004).bind fun r1=>(xCP N q0 (fun z0 z1 z2 z3 z4 z5=>(xBY N q0 n z0 z1 z2 z3 z4 z5)) x1 x2 (i64.wrap (x3 - 1)) x8 x9 (i64.wrap (x2 - x1)) r1)) else((xCP N q0 (fun z0 z1 z2 z3 z4 z5=>(xBY N q0 n z0 z1 z2 z3 z4 z5)) x1 x2 x3 x8 x9 (i64.wrap (x2 - x1)) g004))))
def xEc(N:Nat)(q0:Int→Int→Int→(List Org)→Option ((List Org)))(a0:Int)(a1:Int)(a2:Int)(a3:List Org):Option ((List Org)):=(xBY N q0 N a0 a1 a2 true true a3)
def xBS(N:Nat):Nat→Int→Int→Int→(List Org)→Option ((List Org))
 |0,_,_,_,_=>none
 |d+1,a0,a1,a2,a3=>xEc N (xBS N d) a0 a1 a2 a3
def xEQ(N:Nat)(a0:Int)(a1:Int)(a2:Int)(a3:List Org):Option ((List Org)):=xBS N N a0 a1 a2 a3
def xLi(N:Nat):Nat→(List Str)→Int→Int→Option (Int)
 |0,_,_,_=>none
 |n+1,x0,x1,x5=>bif(decide (x5<(x0.length:Int))) then(if(0:Int)≤x5∧x5<x0.length then bif(decide (((i64.wrap (x1 - (List.length (x0.getD x5.toNat Ty.str.dflt):Int))):Int)<0)) then(some (-1)) else((xLi N n x0 (i64.wrap (x1 - (List.length (x0.getD x5.toNat Ty.str.dflt):Int))) (i64.wrap (x5+1)))) else none) else(some x1)
def xPN(N:Nat)(a0:List Str)(a1:Int):Option (Int):=bif(decide (((i64.wrap (a1 - (a0.length:Int))):Int)<0)) then(some (-1)) else((xLi N N a0 (i64.wrap (a1 - (a0.length:Int))) 0))
def xT3(N:Nat)(a0:List Int)(a1:Int):Option (Int):=bif(decide (((i64.wrap (a1 - (a0.length:Int))):Int)<0)) then(some (-1)) else(some (i64.wrap (a1 - (a0.length:Int))))
def xPM(N:Nat)(a0:List Org)(a1:Int):Option (Int):=bif(decide (((i64.wrap (a1 - (a0.length:Int))):Int)<0)) then(some (-1)) else(some (i64.wrap (a1 - (a0.length:Int))))
def xVD(N:Nat)(a0:Rowd)(a1:Int):Option (Int):=(xT3 N a0.cells a1).bind fun r1=>bif(decide (r1<0)) then(some (-1)) else((xPM N a0.frm r1).bind fun r2=>bif(decide (r2<0)) then(some (-1)) else(some r2))
def xMG(N:Nat):Nat→(List Rowd)→Int→Int→Option (Int)
 |0,_,_,_=>none
 |n+1,x0,x1,x5=>bif(decide (x5<(x0.length:Int))) then(if(0:Int)≤x5∧x5<x0.length then(xVD N (x0.getD x5.toNat Ty.row.dflt) x1).bind fun r1=>bif(decide (r1<0)) then(some (-1)) else((xMG N n x0 r1 (i64.wrap (x5+1)))) else none) else(some x1)
def xT4(N:Nat)(a0:List Rowd)(a1:Int):Option (Int):=bif(decide (((i64.wrap (a1 - (a0.length:Int))):Int)<0)) then(some (-1)) else((xMG N N a0 (i64.wrap (a1 - (a0.length:Int))) 0))
def xNL(N:Nat)(q0:Val→Int→Option (Int))(q1:(List Val)→Int→Option (Int))(a0:Val)(a1:Int):Option (Int):=bif(decide (((i64.wrap (a1 - (a0.text.length:Int))):Int)<0)) then(some (-1)) else((q1 a0.list (i64.wrap (a1 - (a0.text.length:Int)))).bind fun r1=>bif(decide (r1<0)) then(some (-1)) else((xPN N a0.columns r1).bind fun r2=>bif(decide (r2<0)) then(some (-1)) else((xT4 N a0.rows r2).bind fun r3=>bif(decide (r3<0)) then(some (-1)) else(some r3))))
def xLP(N:Nat)(q0:Val→Int→Option (Int))(q1:(List Val)→Int→Option (Int)):Nat→(List Val)→Int→Int→Option (Int)
 |0,_,_,_=>none
 |n+1,x0,x1,x5=>bif(decide (x5<(x0.length:Int))) then(if(0:Int)≤x5∧x5<x0.length then(q0 (x0.getD x5.toNat Ty.val.dflt) x1).bind fun r1=>bif(decide (r1<0)) then(some (-1)) else((xLP N q0 q1 n x0 r1 (i64.wrap (x5+1)))) else none) else(some x1)
def xNl(N:Nat)(q0:Val→Int→Option (Int))(q1:(List Val)→Int→Option (Int))(a0:List Val)(a1:Int):Option (Int):=bif(decide (((i64.wrap (a1 - (a0.length:Int))):Int)<0)) then(some (-1)) else((xLP N q0 q1 N a0 (i64.wrap (a1 - (a0.length:Int))) 0))
structure laws_szValue_rec where
 c_laws_szValue:Val→Int→Option (Int)
 c_laws_szValueS:(List Val)→Int→Option (Int)
def xIx(N:Nat):Nat→laws_szValue_rec
 |0=>⟨fun _ _=>none,fun _ _=>none⟩
 |d+1=>⟨xNL N (xIx N d).c_laws_szValue (xIx N d).c_laws_szValueS,xNl N (xIx N d).c_laws_szValue (xIx N d).c_laws_szValueS⟩
def xNN(N:Nat):Nat→(List Str)→(List Str)→Int→Option ((List Str))
 |0,_,_,_=>none
 |n+1,x0,x3,x4=>bif(decide (x4<(x0.length:Int))) then(if(0:Int)≤x4∧x4<x0.length then if(0:Int)≤x4∧x4<x3.length then(xNN N n x0 (x3.set x4.toNat (x0.getD x4.toNat Ty.str.dflt)) (i64.wrap (x4+1))) else none else none) else(some x3)
def xPO(N:Nat):Nat→(List Int)→(List Int)→Int→Option ((List Int))
 |0,_,_,_=>none
 |n+1,x0,x3,x4=>bif(decide (x4<(x0.length:Int))) then(if(0:Int)≤x4∧x4<x0.length then if(0:Int)≤x4∧x4<x3.length then(xPO N n x0 (x3.set x4.toNat (x0.getD x4.toNat Ty.int.dflt)) (i64.wrap (x4+1))) else none else none) else(some x3)
def xQ2(N:Nat)(a0:Org):Option (Org):=some a0
def xNM(N:Nat):Nat→(List Org)→(List Org)→Int→Option ((List Org))
 |0,_,_,_=>none
 |n+1,x0,x3,x4=>bif(decide (x4<(x0.length:Int))) then(if(0:Int)≤x4∧x4<x0.length then(xQ2 N (x0.getD x4.toNat Ty.org.dflt)).bind fun r1=>if(0:Int)≤x4∧x4<x3.length then(xNM N n x0 (x3.set x4.toNat r1) (i64.wrap (x4+1))) else none else none) else(some x3)
def xHa(a0:Int)(a1:Int)(a2:Int):List Arg:=[.val (.v false [.int .i64 a0]),.val (.v false [.int .i64 a1]),.val (.v false [.int .i64 a2])]
def xEX(r:Bool):CallO:=⟨.v false [.bool r],[],[]⟩
def xKC(N:Nat)(a0:Int)(a1:Int)(a2:Int):Option (Bool):=bif(decide (a0≥a1)) then(some (decide (a0≤a2))) else(some false)
def xEv(a0:Int):List Arg:=[.val (.v false [.int .i64 a0])]
def xCI(r:Bool):CallO:=⟨.v false [.bool r],[],[]⟩
def xGL(N:Nat)(a0:Int):Option (Bool):=(xKC N a0 (-1000000000) 1000000000).bind fun r1=>some r1
def xHj(a0:Str):List Arg:=[.val (.v false [.str a0])]
def xDG(r:Bool):CallO:=⟨.v false [.bool r],[],[]⟩
def xD1(N:Nat):Nat→Str→Int→Option (Bool)
 |0,_,_=>none
 |n+1,x0,x3=>bif(decide (x3<(x0.length:Int))) then(if(0:Int)≤x3∧x3<x0.length then bif(decide ((((x0.getD x3.toNat 0).toNat:Int):Int)<32)) then(some false) else(bif(decide ((((x0.getD x3.toNat 0).toNat:Int):Int)>126)) then(some false) else(bif((((x0.getD x3.toNat 0).toNat:Int):Int)==34) then(some false) else((xD1 N n x0 (i64.wrap (x3+1)))))) else none) else(some (decide ((x0.length:Int)≤20)))
def xIy(N:Nat)(a0:Str):Option (Bool):=(xD1 N N a0 0)
def xEG(a0:Val):List Arg:=[.val (.v true (Va .ro a0))]
def xDv(r:Bool):CallO:=⟨.v false [.bool r],[],[]⟩
def xJB(N:Nat)(a0:Val):Option (Bool):=bif(a0.kind==1) then(some true) else(bif(a0.kind==2) then(some true) else(some (a0.kind==3)))
def xI6(a0:Int)(a1:Int):List Arg:=[.val (.v false [.int .i64 a0]),.val (.v false [.int .i64 a1])]
def xIb(r:Int):CallO:=⟨.v false [.int .i64 r],[],[]⟩
def xLp(N:Nat)(a0:Int)(a1:Int):Option (Int):=bif(decide (a0>a1)) then(some a0) else(some a1)
def xGj(a0:Val):List Arg:=[.val (.v true (Va .ro a0))]
def xEn(r:Int):CallO:=⟨.v false [.int .i64 r],[],[]⟩
def xGY(N:Nat)(q0:Val→Option (Int)):Nat→Int→Int→Val→Option (Int)
 |0,_,_,_=>none
 |n+1,x3,x4,b1=>bif(decide (x4<(b1.list.length:Int))) then(if(0:Int)≤x4∧x4<b1.list.length then(q0 (b1.list.getD x4.toNat Ty.val.dflt)).bind fun r1=>(xLp N x3 r1).bind fun r2=>(xGY N q0 n r2 (i64.wrap (x4+1)) b1) else none) else(some (i64.wrap (x3+1)))
def xJq(N:Nat)(q0:Val→Option (Int))(a0:Val):Option (Int):=(xGY N q0 N 0 0 a0)
def xFK(N:Nat):Nat→Val→Option (Int)
 |0,_=>none
 |d+1,a0=>xJq N (xFK N d) a0
def xJR(N:Nat)(a0:Val):Option (Int):=xFK N N a0
def xG0(a0:Str):List Arg:=[.val (.v false [.str a0])]
def xCr(r:Bool):CallO:=⟨.v false [.bool r],[],[]⟩
def xEr(N:Nat):Nat→Str→Int→Option (Bool)
 |0,_,_=>none
 |n+1,x0,x3=>bif(decide (x3<(x0.length:Int))) then(if(0:Int)≤x3∧x3<x0.length then bif(decide ((((x0.getD x3.toNat 0).toNat:Int):Int)≥97)) then(bif(decide ((((x0.getD x3.toNat 0).toNat:Int):Int)≥48)) then(bif(!(decide ((((x0.getD x3.toNat 0).toNat:Int):Int)≤122))) then(bif(x3==0) then(some false) else(bif(!(decide ((((x0.getD x3.toNat 0).toNat:Int):Int)≤57))) then(some false) else((xEr N n x0 (i64.wrap (x3+1)))))) else((xEr N n x0 (i64.wrap (x3+1))))) else(bif(!(decide ((((x0.getD x3.toNat 0).toNat:Int):Int)≤122))) then(bif(x3==0) then(some false) else(some false)) else((xEr N n x0 (i64.wrap (x3+1)))))) else(bif(decide ((((x0.getD x3.toNat 0).toNat:Int):Int)≥48)) then(bif(x3==0) then(some false) else(bif(!(decide ((((x0.getD x3.toNat 0).toNat:Int):Int)≤57))) then(some false) else((xEr N n x0 (i64.wrap (x3+1)))))) else(bif(x3==0) then(some false) else(some false))) else none) else(some (decide ((x0.length:Int)>0)))
def xKU(N:Nat)(a0:Str):Option (Bool):=(xEr N N a0 0)
def xHR:List Arg:=[]
def xGJ(r:(List Str)):CallO:=⟨.v false [.sl .own .str r],[],[]⟩
def xI9(N:Nat):Option ((List Str)):=some [[108,101,116],[105,110],[105,102],[116,104,101,110],[101,108,115,101],[102,111,114],[100,111],[108,101,110],[115,117,109],[116,97,107,101],[115,107,105,112],[114,97,110,103,101],[110,116,104],[119,104,101,114,101],[107,101,101,112],[97,100,100],[103,114,111,117,112],[106,111,105,110],[99,111,108,117,109,110],[114,111,119,115],[99,108,111,99,107],[99,104,97,110,99,101],[102,105,108,101],[116,97,98,108,101]]
def xIa(a0:List Str)(a1:Str):List Arg:=[.val (.v false [.sl .ro .str a0]),.val (.v false [.str a1])]
def xES(r:Bool):CallO:=⟨.v false [.bool r],[],[]⟩
def xHn(N:Nat):Nat→(List Str)→Str→Int→Option (Bool)
 |0,_,_,_=>none
 |n+1,x0,x1,x5=>bif(decide (x5<(x0.length:Int))) then(if(0:Int)≤x5∧x5<x0.length then bif(((x0.getD x5.toNat Ty.str.dflt):Str)==x1) then(some true) else((xHn N n x0 x1 (i64.wrap (x5+1)))) else none) else(some false)
def xLo(N:Nat)(a0:List Str)(a1:Str):Option (Bool):=(xHn N N a0 a1 0)
def xHQ(a0:Str):List Arg:=[.val (.v false [.str a0])]
def xGH(r:Bool):CallO:=⟨.v false [.bool r],[],[]⟩
def xHZ(N:Nat)(a0:Str):Option (Bool):=(xI9 N).bind fun r1=>(xLo N r1 a0).bind fun r2=>some r2
def xEA(a0:Str):List Arg:=[.val (.v false [.str a0])]
def xDF(r:Bool):CallO:=⟨.v false [.bool r],[],[]⟩
def xHw(N:Nat)(a0:Str):Option (Bool):=(xKU N a0).bind fun r1=>bif r1 then(bif(decide ((a0.length:Int)≤8)) then((xHZ N a0).bind fun r2=>some (!r2)) else(some false)) else(some false)
def xGi(a0:List Str):List Arg:=[.val (.v false [.sl .ro .str a0])]
def xC7(r:Bool):CallO:=⟨.v false [.bool r],[],[]⟩
def xEz(N:Nat):Nat→(List Str)→Int→Option (Bool)
 |0,_,_=>none
 |n+1,x0,x3=>bif(decide (x3<(x0.length:Int))) then(if(0:Int)≤x3∧x3≤x0.length then if(0:Int)≤x3∧x3<x0.length then(xLo N (List.take x3.toNat x0) (x0.getD x3.toNat Ty.str.dflt)).bind fun r1=>bif r1 then(some false) else((xEz N n x0 (i64.wrap (x3+1)))) else none else none) else(some true)
def xHv(N:Nat)(a0:List Str):Option (Bool):=(xEz N N a0 0)
def xF2(a0:List Str):List Arg:=[.val (.v false [.sl .ro .str a0])]
def xDg(r:Bool):CallO:=⟨.v false [.bool r],[],[]⟩
def xF3(N:Nat):Nat→(List Str)→Int→Option (Bool)
 |0,_,_=>none
 |n+1,x0,x3=>bif(decide (x3<(x0.length:Int))) then(if(0:Int)≤x3∧x3<x0.length then(xHw N (x0.getD x3.toNat Ty.str.dflt)).bind fun r1=>bif(!r1) then(some false) else((xF3 N n x0 (i64.wrap (x3+1)))) else none) else((xKC N (x0.length:Int) 1 4).bind fun r1=>bif r1 then((xHv N x0).bind fun r2=>some r2) else(some false))
def xJA(N:Nat)(a0:List Str):Option (Bool):=(xF3 N N a0 0)
def xEY(a0:Org)(a1:Org):List Arg:=[.val (.v true [.int .i64 a0.cell,.int .i64 a0.row]),.val (.v true [.int .i64 a1.cell,.int .i64 a1.row])]
def xB9(r:Bool):CallO:=⟨.v false [.bool r],[],[]⟩
def xGK(N:Nat)(a0:Org)(a1:Org):Option (Bool):=bif(decide (a0.cell<a1.cell)) then(some true) else(bif(a0.cell==a1.cell) then(some (decide (a0.row<a1.row))) else(some false))
def xGo(a0:List Org):List Arg:=[.val (.v false [.sl .ro .org a0])]
def xC8(r:Bool):CallO:=⟨.v false [.bool r],[],[]⟩
def xD4(N:Nat):Nat→(List Org)→Int→Option (Bool)
 |0,_,_=>none
 |n+1,x0,x3=>bif(decide (x3<(x0.length:Int))) then(if(0:Int)≤x3∧x3<x0.length then bif(decide (((Org.cell (x0.getD x3.toNat Ty.org.dflt)):Int)<0)) then(some false) else(bif(decide (((Org.row (x0.getD x3.toNat Ty.org.dflt)):Int)<0)) then(some false) else(bif(decide (x3>0)) then(if(0:Int)≤(i64.wrap (x3 - 1))∧(i64.wrap (x3 - 1))<x0.length then(xGK N (x0.getD (Int.toNat (i64.wrap (x3 - 1))) Ty.org.dflt) (x0.getD x3.toNat Ty.org.dflt)).bind fun r1=>bif(!r1) then(some false) else((xD4 N n x0 (i64.wrap (x3+1)))) else none) else((xD4 N n x0 (i64.wrap (x3+1)))))) else none) else(some true)
def xIz(N:Nat)(a0:List Org):Option (Bool):=(xD4 N N a0 0)
def xG1(a0:Val):List Arg:=[.val (.v true (Va .ro a0))]
def xDw(r:Bool):CallO:=⟨.v false [.bool r],[],[]⟩
def xFL(N:Nat)(k4:Int→Val→Option (Bool)):Nat→Int→Int→Val→Rowd→Option (Bool)
 |0,_,_,_,_=>none
 |n+1,x3,x5,b1,b4=>bif(decide (x5<(b4.cells.length:Int))) then(if(0:Int)≤x5∧x5<b4.cells.length then(xGL N (b4.cells.getD x5.toNat Ty.int.dflt)).bind fun r1=>bif(!r1) then(some false) else((xFL N k4 n x3 (i64.wrap (x5+1)) b1 b4)) else none) else((k4 (i64.wrap (x3+1)) b1))
def xGq(N:Nat):Nat→Int→Val→Option (Bool)
 |0,_,_=>none
 |n+1,x3,b1=>bif(decide (x3<(b1.rows.length:Int))) then(if(0:Int)≤x3∧x3<b1.rows.length then bif(((List.length (Rowd.cells (b1.rows.getD x3.toNat Ty.row.dflt)):Int):Int) != (b1.columns.length:Int)) then(some false) else((xIz N (Rowd.frm (b1.rows.getD x3.toNat Ty.row.dflt))).bind fun r1=>bif(!r1) then(some false) else((xFL N (fun z0 z1=>(xGq N n z0 z1)) N x3 0 b1 (b1.rows.getD x3.toNat Ty.row.dflt)))) else none) else(some true)
def xJS(N:Nat)(a0:Val):Option (Bool):=(xJA N a0.columns).bind fun r1=>bif(!r1) then(some false) else(bif(decide ((a0.rows.length:Int)>12)) then(some false) else((xGq N N 0 a0)))
def xAR(a0:Val):List Arg:=[.val (.v true (Va .ro a0))]
def xAK(r:Bool):CallO:=⟨.v false [.bool r],[],[]⟩
def xE5(N:Nat)(q0:Val→Option (Bool))(q1:Val→Option (Bool))(a0:Val):Option (Bool):=bif(a0.kind != 3) then(bif(decide ((a0.list.length:Int)>0)) then(some false) else(bif(a0.kind != 5) then(bif(decide (((i64.wrap ((a0.columns.length:Int)+(a0.rows.length:Int))):Int)>0)) then(some false) else(bif(a0.kind != 2) then(bif(!((a0.text:Str)== [])) then(some false) else(bif(a0.kind != 4) then(bif(a0.step != 0) then(some false) else(bif(a0.kind==1) then((xGL N a0.n).bind fun r1=>some r1) else(bif(a0.kind==6) then((xKC N a0.n 1 8).bind fun r1=>some r1) else(some false)))) else((xGL N a0.n).bind fun r1=>bif r1 then((xGL N a0.step).bind fun r2=>some r2) else(some false)))) else(bif(a0.step != 0) then(some false) else(bif(a0.n==0) then((xIy N a0.text).bind fun r1=>some r1) else(some false))))) else(bif(!((a0.text:Str)== [])) then(some false) else(bif(a0.step != 0) then(some false) else(bif(a0.n==0) then((xJS N a0).bind fun r1=>some r1) else(some false)))))) else(bif(decide (((i64.wrap ((a0.columns.length:Int)+(a0.rows.length:Int))):Int)>0)) then(some false) else(bif(!((a0.text:Str)== [])) then(some false) else(bif(a0.step != 0) then(some false) else(bif(a0.n==0) then((q1 a0).bind fun r1=>some r1) else(some false)))))
def xIr(a0:Val):List Arg:=[.val (.v true (Va .ro a0))]
def xEJ(r:Bool):CallO:=⟨.v false [.bool r],[],[]⟩
def xFX(N:Nat)(q0:Val→Option (Bool))(q1:Val→Option (Bool)):Nat→Int→Val→Option (Bool)
 |0,_,_=>none
 |n+1,x3,b1=>bif(decide (x3<(b1.list.length:Int))) then(if(0:Int)≤x3∧x3<b1.list.length then(xJB N (b1.list.getD x3.toNat Ty.val.dflt)).bind fun r1=>bif(!r1) then(some false) else((q0 (b1.list.getD x3.toNat Ty.val.dflt)).bind fun r2=>bif(!r2) then(some false) else((xFX N q0 q1 n (i64.wrap (x3+1)) b1))) else none) else(bif(decide ((b1.list.length:Int)≤8)) then((xJR N b1).bind fun r1=>some (decide (r1≤3))) else(some false))
def xJ0(N:Nat)(q0:Val→Option (Bool))(q1:Val→Option (Bool))(a0:Val):Option (Bool):=(xFX N q0 q1 N 0 a0)
structure spec_IsValidValue_rec where
 c_spec_IsValidValue:Val→Option (Bool)
 c_spec_l3List:Val→Option (Bool)
def xBb(N:Nat):Nat→spec_IsValidValue_rec
 |0=>⟨fun _=>none,fun _=>none⟩
 |d+1=>⟨xE5 N (xBb N d).c_spec_IsValidValue (xBb N d).c_spec_l3List,xJ0 N (xBb N d).c_spec_IsValidValue (xBb N d).c_spec_l3List⟩
def xFd(N:Nat)(a0:Val):Option (Bool):=(xBb N N).c_spec_IsValidValue a0
def xDi(a0:Int):List Arg:=[.val (.v false [.int .i64 a0])]
def xBm(r:Val):CallO:=⟨.v true (Va .own r),[],[]⟩
def xBN(N:Nat)(a0:Int):Option (Val):=some (Val.mk 6 a0 0 [] [] [] [])
def xH1(a0:List Val):List Arg:=[.val (.v false [.sl .ro .val a0])]
def xEt(r:Val×Bool):CallO:=⟨.tup [(true,(Va .own r.1)),(false,[.bool r.2])],[],[]⟩
def xFx(N:Nat):Nat→(List Val)→Int→Val→Option (Val×Bool)
 |0,_,_,_=>none
 |n+1,x0,x4,b2=>bif(decide (x4<(x0.length:Int))) then(if(0:Int)≤x4∧x4<x0.length then(xFd N (x0.getD x4.toNat Ty.val.dflt)).bind fun r1=>bif(!r1) then((xBN N 4).bind fun r2=>some (r2,true)) else(bif(((Val.kind (x0.getD x4.toNat Ty.val.dflt)):Int)==6) then((xBN N (Val.n (x0.getD x4.toNat Ty.val.dflt))).bind fun r2=>some (r2,true)) else((xFx N n x0 (i64.wrap (x4+1)) b2))) else none) else(some ((Val.mk 0 0 0 [] [] [] []),false))
def xKX(N:Nat)(a0:List Val):Option (Val×Bool):=(xFx N N a0 0 (Val.mk 0 0 0 [] [] [] []))
def xH2(a0:List Val)(a1:List Int):List Arg:=[.val (.v false [.sl .ro .val a0]),.val (.v false [.sl .ro .int a1])]
def xDx(r:Val×Bool):CallO:=⟨.tup [(true,(Va .own r.1)),(false,[.bool r.2])],[],[]⟩
def xFy(N:Nat):Nat→(List Val)→(List Int)→Int→Val→Option (Val×Bool)
 |0,_,_,_,_=>none
 |n+1,x0,x1,x8,b4=>bif(decide (x8<(x0.length:Int))) then(if(0:Int)≤x8∧x8<x0.length then if(0:Int)≤x8∧x8<x1.length then bif(((Val.kind (x0.getD x8.toNat Ty.val.dflt)):Int) != (x1.getD x8.toNat Ty.int.dflt)) then((xBN N 4).bind fun r1=>some (r1,true)) else((xFy N n x0 x1 (i64.wrap (x8+1)) b4)) else none else none) else(some ((Val.mk 0 0 0 [] [] [] []),false))
def xJU(N:Nat)(a0:List Val)(a1:List Int):Option (Val×Bool):=(xKX N a0).bind fun r1=>bif r1.2 then(some (r1.1,true)) else((xFy N N a0 a1 0 (Val.mk 0 0 0 [] [] [] [])))
def xI5(a0:List Str)(a1:Str):List Arg:=[.val (.v false [.sl .ro .str a0]),.val (.v false [.str a1])]
def xGl(r:Int):CallO:=⟨.v false [.int .i64 r],[],[]⟩
def xGk(N:Nat):Nat→(List Str)→Str→Int→Option (Int)
 |0,_,_,_=>none
 |n+1,x0,x1,x5=>bif(decide (x5<(x0.length:Int))) then(if(0:Int)≤x5∧x5<x0.length then bif(((x0.getD x5.toNat Ty.str.dflt):Str)==x1) then(some x5) else((xGk N n x0 x1 (i64.wrap (x5+1)))) else none) else(some (-1))
def xKS(N:Nat)(a0:List Str)(a1:Str):Option (Int):=(xGk N N a0 a1 0)
def xHi(a0:Val)(a1:Str):List Arg:=[.val (.v true (Va .ro a0)),.val (.v false [.str a1])]
def xCf(r:Int):CallO:=⟨.v false [.int .i64 r],[],[]⟩
def xGx(N:Nat)(a0:Val)(a1:Str):Option (Int):=(xKS N a0.columns a1).bind fun r1=>some r1
def xJb(a0:List Org)(a1:List Org):List Arg:=[.val (.v false [.sl .ro .org a0]),.val (.v false [.sl .ro .org a1])]
def xG5(r:(List Org)):CallO:=⟨.v false [.sl .own .org r],[],[]⟩
def xCs(N:Nat):Nat→(List Org)→(List Org)→(List Org)→Int→Int→Option ((List Org))
 |0,_,_,_,_,_=>none
 |n+1,x0,x1,x5,x6,x7=>bif(decide (x6<(x0.length:Int))) then(bif(x7==(x1.length:Int)) then(if(0:Int)≤x6∧x6<x0.length then if x5.length+ [(x0.getD x6.toNat Ty.org.dflt)].length≤Lim then(xCs N n x0 x1 (x5++ [(x0.getD x6.toNat Ty.org.dflt)]) (i64.wrap (x6+1)) x7) else none else none) else(if(0:Int)≤x6∧x6<x0.length then if(0:Int)≤x7∧x7<x1.length then(xGK N (x0.getD x6.toNat Ty.org.dflt) (x1.getD x7.toNat Ty.org.dflt)).bind fun r1=>bif r1 then(if x5.length+ [(x0.getD x6.toNat Ty.org.dflt)].length≤Lim then(xCs N n x0 x1 (x5++ [(x0.getD x6.toNat Ty.org.dflt)]) (i64.wrap (x6+1)) x7) else none) else(bif(x6==(x0.length:Int)) then(if x5.length+ [(x1.getD x7.toNat Ty.org.dflt)].length≤Lim then(xCs N n x0 x1 (x5++ [(x1.getD x7.toNat Ty.org.dflt)]) x6 (i64.wrap (x7+1))) else none) else((xGK N (x1.getD x7.toNat Ty.org.dflt) (x0.getD x6.toNat Ty.org.dflt)).bind fun r2=>bif r2 then(if x5.length+ [(x1.getD x7.toNat Ty.org.dflt)].length≤Lim then(xCs N n x0 x1 (x5++ [(x1.getD x7.toNat Ty.org.dflt)]) x6 (i64.wrap (x7+1))) else none) else(if x5.length+ [(x0.getD x6.toNat Ty.org.dflt)].length≤Lim then(xCs N n x0 x1 (x5++ [(x0.getD x6.toNat Ty.org.dflt)]) (i64.wrap (x6+1)) (i64.wrap (x7+1))) else none))) else none else none)) else(bif(decide (x7<(x1.length:Int))) then(bif(x7==(x1.length:Int)) then(if(0:Int)≤x6∧x6<x0.length then if x5.length+ [(x0.getD x6.toNat Ty.org.dflt)].length≤Lim then(xCs N n x0 x1 (x5++ [(x0.getD x6.toNat Ty.org.dflt)]) (i64.wrap (x6+1)) x7)
      else none else none) else(bif(x6==(x0.length:Int)) then(if(0:Int)≤x7∧x7<x1.length then if x5.length+ [(x1.getD x7.toNat Ty.org.dflt)].length≤Lim then(xCs N n x0 x1 (x5++ [(x1.getD x7.toNat Ty.org.dflt)]) x6 (i64.wrap (x7+1))) else none else none) else(if(0:Int)≤x7∧x7<x1.length then if(0:Int)≤x6∧x6<x0.length then(xGK N (x1.getD x7.toNat Ty.org.dflt) (x0.getD x6.toNat Ty.org.dflt)).bind fun r1=>bif r1 then(if x5.length+ [(x1.getD x7.toNat Ty.org.dflt)].length≤Lim then(xCs N n x0 x1 (x5++ [(x1.getD x7.toNat Ty.org.dflt)]) x6 (i64.wrap (x7+1))) else none) else(if x5.length+ [(x0.getD x6.toNat Ty.org.dflt)].length≤Lim then(xCs N n x0 x1 (x5++ [(x0.getD x6.toNat Ty.org.dflt)]) (i64.wrap (x6+1)) (i64.wrap (x7+1))) else none) else none else none))) else(some x5))
def xJV(N:Nat)(a0:List Org)(a1:List Org):Option ((List Org)):=(xCs N N a0 a1 [] 0 0)
def xJF(a0:Rowd)(a1:Rowd)(a2:Int):List Arg:=[.val (.v true [.sl .ro .int a0.cells,.sl .ro .org a0.frm]),.val (.v true [.sl .ro .int a1.cells,.sl .ro .org a1.frm]),.val (.v false [.int .i64 a2])]
def xIt(r:Rowd):CallO:=⟨.v true [.sl .own .int (Rowd.cells r),.sl .own .org (Rowd.frm r)],[],[]⟩
def xKI(N:Nat)(a0:Rowd)(a1:Rowd)(a2:Int):Option (Rowd):=if 0+a0.cells.length≤Lim then(xJV N a0.frm a1.frm).bind fun r1=>if(0:Int)≤a2∧a2≤a1.cells.length then if List.length ([]++a0.cells)+List.length (List.take a2.toNat a1.cells)≤Lim then if(0:Int)≤(i64.wrap (a2+1))∧(i64.wrap (a2+1))≤a1.cells.length then if List.length (([]++a0.cells)++(List.take a2.toNat a1.cells))+List.length (List.drop (Int.toNat (i64.wrap (a2+1))) a1.cells)≤Lim then some (Rowd.mk ((([]++a0.cells)++(List.take a2.toNat a1.cells))++(List.drop (Int.toNat (i64.wrap (a2+1))) a1.cells)) r1) else none else none else none else none else none
def xFo(a0:Val)(a1:Val)(a2:Val):List Arg:=[.val (.v true (Va .ro a0)),.val (.v true (Va .ro a1)),.val (.v true (Va .ro a2))]
def xAD(r:Val):CallO:=⟨.v true (Va .own r),[],[]⟩
def xGm(N:Nat)(k15:Int→Int→Int→Val→Val→Val→Val→Option (Val)):Nat→Int→Int→Int→Int→Val→Val→Val→Val→Option (Val)
 |0,_,_,_,_,_,_,_,_=>none
 |n+1,x9,x10,x12,x13,b4,b5,b6,b11=>bif(decide (x13<(b5.rows.length:Int))) then(if(0:Int)≤x12∧x12<b4.rows.length then if(0:Int)≤x9∧x9<(List.length (Rowd.cells (b4.rows.getD x12.toNat Ty.row.dflt))) then if(0:Int)≤x13∧x13<b5.rows.length then if(0:Int)≤x10∧x10<(List.length (Rowd.cells (b5.rows.getD x13.toNat Ty.row.dflt))) then bif(((List.getD (Rowd.cells (b4.rows.getD x12.toNat Ty.row.dflt)) x9.toNat Ty.int.dflt):Int)==(List.getD (Rowd.cells (b5.rows.getD x13.toNat Ty.row.dflt)) x10.toNat Ty.int.dflt)) then((xKI N (b4.rows.getD x12.toNat Ty.row.dflt) (b5.rows.getD x13.toNat Ty.row.dflt) x10).bind fun r1=>if b11.rows.length+ [r1].length≤Lim then(xGm N k15 n x9 x10 x12 (i64.wrap (x13+1)) b4 b5 b6 (Val.mk b11.kind b11.n b11.step b11.text b11.list b11.columns (b11.rows++ [r1]))) else none) else((xGm N k15 n x9 x10 x12 (i64.wrap (x13+1)) b4 b5 b6 b11)) else none else none else none else none) else((k15 x9 x10 (i64.wrap (x12+1)) b4 b5 b6 b11))
def xFw(N:Nat):Nat→Int→Int→Int→Val→Val→Val→Val→Option (Val)
 |0,_,_,_,_,_,_,_=>none
 |n+1,x9,x10,x12,b4,b5,b6,b11=>bif(decide (x12<(b4.rows.length:Int))) then((xGm N (fun z0 z1 z2 z3 z4 z5 z6=>(xFw N n z0 z1 z2 z3 z4 z5 z6)) N x9 x10 x12 0 b4 b5 b6 b11)) else(bif(decide ((b11.rows.length:Int)>12)) then((xBN N 6).bind fun r1=>some r1) else(some b11))
def xAU(N:Nat)(a0:Val)(a1:Val)(a2:Val):Option (Val):=(xJU N [a0.re,a1.re,a2.re] [2,5,5]).bind fun r1=>bif r1.2 then(some r1.1) else((xGx N a1 a0.text).bind fun r2=>(xGx N a2 a0.text).bind fun r3=>bif(decide (r2<0)) then((xBN N 7).bind fun r4=>some r4) else(bif(decide (r3<0)) then((xBN N 7).bind fun r4=>some r4) else(if 0+a1.columns.length≤Lim then if(0:Int)≤r3∧r3≤a2.columns.length then if List.length ([]++a1.columns)+List.length (List.take r3.toNat a2.columns)≤Lim then if(0:Int)≤(i64.wrap (r3+1))∧(i64.wrap (r3+1))≤a2.columns.length then if List.length (([]++a1.columns)++(List.take r3.toNat a2.columns))+List.length (List.drop (Int.toNat (i64.wrap (r3+1))) a2.columns)≤Lim then(xHv N ((([]++a1.columns)++(List.take r3.toNat a2.columns))++(List.drop (Int.toNat (i64.wrap (r3+1))) a2.columns))).bind fun r4=>bif(!r4) then((xBN N 7).bind fun r5=>some r5) else(bif(decide (((List.length ((([]++a1.columns)++(List.take r3.toNat a2.columns))++(List.drop (Int.toNat (i64.wrap (r3+1))) a2.columns)):Int):Int)>4)) then((xBN N 6).bind fun r5=>some r5) else((xFw N N r2 r3 0 a1 a2 (Val.mk 0 0 0 [] [] [] []) (Val.mk 5 0 0 [] [] ((([]++a1.columns)++(List.take r3.toNat a2.columns))++(List.drop (Int.toNat (i64.wrap (r3+1))) a2.columns)) [])))) else none else none else none else none else none)))
def xFm(a0:Int)(a1:Int)(a2:Int):List Arg:=[.val (.v false [.int .i64 a0]),.val (.v false [.int .i64 a1]),.val (.v false [.int .i64 a2])]
def xDA(r:Bool):CallO:=⟨.v false [.bool r],[],[]⟩
def xHX(N:Nat)(a0:Int)(a1:Int)(a2:Int):Option (Bool):=bif(decide (a1≤a0)) then(some (decide (a0≤a2))) else(some false)
def xEu(a0:Int):List Arg:=[.val (.v false [.int .i64 a0])]
def xCF(r:Bool):CallO:=⟨.v false [.bool r],[],[]⟩
def xGC(N:Nat)(a0:Int):Option (Bool):=(xHX N a0 (-1000000000) 1000000000).bind fun r1=>some r1
def xHf(a0:Str):List Arg:=[.val (.v false [.str a0])]
def xDE(r:Bool):CallO:=⟨.v false [.bool r],[],[]⟩
def xGb(N:Nat):Nat→Str→Int→Option (Bool)
 |0,_,_=>none
 |n+1,x0,x3=>bif(decide (x3<(x0.length:Int))) then(if(0:Int)≤x3∧x3<x0.length then bif(decide ((((x0.getD x3.toNat 0).toNat:Int):Int)<32)) then(some false) else(bif(decide ((((x0.getD x3.toNat 0).toNat:Int):Int)>126)) then(some false) else(bif((((x0.getD x3.toNat 0).toNat:Int):Int)==34) then(some false) else((xGb N n x0 (i64.wrap (x3+1)))))) else none) else(some (decide ((x0.length:Int)≤20)))
def xIw(N:Nat)(a0:Str):Option (Bool):=(xGb N N a0 0)
def xIl(a0:Str):List Arg:=[.val (.v false [.str a0])]
def xDz(r:Bool):CallO:=⟨.v false [.bool r],[],[]⟩
def xFl(N:Nat):Nat→Str→Int→Option (Bool)
 |0,_,_=>none
 |n+1,x0,x3=>bif(decide (x3<(x0.length:Int))) then(if(0:Int)≤x3∧x3<x0.length then bif(decide ((((x0.getD x3.toNat 0).toNat:Int):Int)≥97)) then(bif(!(decide ((((x0.getD x3.toNat 0).toNat:Int):Int)≤122))) then(bif(x3==0) then(some false) else(bif(decide ((((x0.getD x3.toNat 0).toNat:Int):Int)<48)) then(some false) else(bif(decide ((((x0.getD x3.toNat 0).toNat:Int):Int)>57)) then(some false) else((xFl N n x0 (i64.wrap (x3+1))))))) else((xFl N n x0 (i64.wrap (x3+1))))) else(bif(x3==0) then(some false) else(bif(decide ((((x0.getD x3.toNat 0).toNat:Int):Int)<48)) then(some false) else(bif(decide ((((x0.getD x3.toNat 0).toNat:Int):Int)>57)) then(some false) else((xFl N n x0 (i64.wrap (x3+1))))))) else none) else((xHX N (x0.length:Int) 1 8).bind fun r1=>some r1)
def xLy(N:Nat)(a0:Str):Option (Bool):=(xFl N N a0 0)
def xA9(a0:Str):List Arg:=[.val (.v false [.str a0])]
def xA1(r:Int):CallO:=⟨.v false [.int .i64 r],[],[]⟩
def xHM(N:Nat)(a0:Str):Option (Int):=bif((a0:Str)== [99,108,111,99,107]) then(some 0) else(bif((a0:Str)== [108,101,110]) then(some 1) else(bif((a0:Str)== [115,117,109]) then(some 1) else(bif((a0:Str)== [114,111,119,115]) then(some 1) else(bif((a0:Str)== [99,104,97,110,99,101]) then(some 1) else(bif((a0:Str)== [102,105,108,101]) then(some 1) else(bif((a0:Str)== [116,97,107,101]) then(some 2) else(bif((a0:Str)== [115,107,105,112]) then(some 2) else(bif((a0:Str)== [114,97,110,103,101]) then(some 2) else(bif((a0:Str)== [110,116,104]) then(some 2) else(bif((a0:Str)== [107,101,101,112]) then(some 2) else(bif((a0:Str)== [99,111,108,117,109,110]) then(some 2) else(bif((a0:Str)== [116,97,98,108,101]) then(some 2) else(bif((a0:Str)== [119,104,101,114,101]) then(some 3) else(bif((a0:Str)== [103,114,111,117,112]) then(some 3) else(bif((a0:Str)== [106,111,105,110]) then(some 3) else(bif((a0:Str)== [97,100,100]) then(some 4) else(some (-1))))))))))))))))))
def xDh(a0:Str):List Arg:=[.val (.v false [.str a0])]
def xC0(r:Bool):CallO:=⟨.v false [.bool r],[],[]⟩
def xHW(N:Nat)(a0:Str):Option (Bool):=bif((a0:Str)== [108,101,116]) then(some true) else(bif((a0:Str)== [105,110]) then(some true) else(bif((a0:Str)== [105,102]) then(some true) else(bif((a0:Str)== [116,104,101,110]) then(some true) else(bif((a0:Str)== [101,108,115,101]) then(some true) else(bif((a0:Str)== [102,111,114]) then(some true) else(bif((a0:Str)== [100,111]) then(some true) else((xHM N a0).bind fun r1=>some (decide (r1≥0)))))))))
def xE7(a0:Str):List Arg:=[.val (.v false [.str a0])]
def xDY(r:Bool):CallO:=⟨.v false [.bool r],[],[]⟩
def xHq(N:Nat)(a0:Str):Option (Bool):=(xLy N a0).bind fun r1=>bif r1 then((xHW N a0).bind fun r2=>some (!r2)) else(some false)
def xHU(a0:List Str)(a1:Str):List Arg:=[.val (.v false [.sl .ro .str a0]),.val (.v false [.str a1])]
def xDJ(r:Int):CallO:=⟨.v false [.int .i64 r],[],[]⟩
def xGa(N:Nat):Nat→Str→(List Str)→Int→Int→Option (Int)
 |0,_,_,_,_=>none
 |n+1,x1,x7,x8,x9=>bif(decide (x9<x8)) then(if(0:Int)≤x9∧x9<x7.length then bif(((x7.getD x9.toNat Ty.str.dflt):Str)==x1) then(some x9) else((xGa N n x1 x7 x8 (i64.wrap (x9+1)))) else none) else(some (-1))
def xIJ(N:Nat)(a0:List Str)(a1:Str):Option (Int):=(xGa N N a1 a0 (a0.length:Int) 0)
def xF8(a0:List Str):List Arg:=[.val (.v false [.sl .ro .str a0])]
def xCc(r:Bool):CallO:=⟨.v false [.bool r],[],[]⟩
def xEw(N:Nat):Nat→(List Str)→(List Str)→Int→Int→Option (Bool)
 |0,_,_,_,_=>none
 |n+1,x0,x5,x6,x7=>bif(decide (x7<x6)) then(if(0:Int)≤x7∧x7<x5.length then(xIJ N x0 (x5.getD x7.toNat Ty.str.dflt)).bind fun r1=>bif(r1 != x7) then(some false) else((xEw N n x0 x5 x6 (i64.wrap (x7+1)))) else none) else(some true)
def xGv(N:Nat)(a0:List Str):Option (Bool):=(xEw N N a0 a0 (a0.length:Int) 0)
def xFC(a0:List Str):List Arg:=[.val (.v false [.sl .ro .str a0])]
def xC2(r:Bool):CallO:=⟨.v false [.bool r],[],[]⟩
def xFD(N:Nat):Nat→(List Str)→(List Str)→Int→Int→Option (Bool)
 |0,_,_,_,_=>none
 |n+1,x0,x5,x6,x7=>bif(decide (x7<x6)) then(if(0:Int)≤x7∧x7<x5.length then(xHq N (x5.getD x7.toNat Ty.str.dflt)).bind fun r1=>bif(!r1) then(some false) else((xFD N n x0 x5 x6 (i64.wrap (x7+1)))) else none) else((xHX N (x0.length:Int) 1 4).bind fun r1=>bif r1 then((xGv N x0).bind fun r2=>some r2) else(some false))
def xIZ(N:Nat)(a0:List Str):Option (Bool):=(xFD N N a0 a0 (a0.length:Int) 0)
def xGe(a0:Val):List Arg:=[.val (.v true (Va .ro a0))]
def xCd(r:Bool):CallO:=⟨.v false [.bool r],[],[]⟩
def xEW(N:Nat)(k4:(List Rowd)→Int→Int→Val→Option (Bool)):Nat→(List Rowd)→Int→Int→(List Org)→Int→Int→Val→Rowd→Option (Bool)
 |0,_,_,_,_,_,_,_,_=>none
 |n+1,x20,x21,x22,x45,x46,x47,b1,b4=>bif(decide (x47<x46)) then(if(0:Int)≤x47∧x47<x45.length then bif(decide (((Org.cell (x45.getD x47.toNat Ty.org.dflt)):Int)<0)) then(some false) else(bif(decide (((Org.row (x45.getD x47.toNat Ty.org.dflt)):Int)<0)) then(some false) else(bif(decide (x47>0)) then(if(0:Int)≤(i64.wrap (x47 - 1))∧(i64.wrap (x47 - 1))<b4.frm.length then(xFa N (b4.frm.getD (Int.toNat (i64.wrap (x47 - 1))) Ty.org.dflt) (x45.getD x47.toNat Ty.org.dflt)).bind fun r1=>bif(!r1) then(some false) else((xEW N k4 n x20 x21 x22 x45 x46 (i64.wrap (x47+1)) b1 b4)) else none) else((xEW N k4 n x20 x21 x22 x45 x46 (i64.wrap (x47+1)) b1 b4)))) else none) else((k4 x20 x21 (i64.wrap (x22+1)) b1))
def xGg(N:Nat)(k4:(List Rowd)→Int→Int→Val→Option (Bool)):Nat→(List Rowd)→Int→Int→(List Int)→Int→Int→Val→Rowd→Option (Bool)
 |0,_,_,_,_,_,_,_,_=>none
 |n+1,x20,x21,x22,x34,x35,x36,b1,b4=>bif(decide (x36<x35)) then(if(0:Int)≤x36∧x36<x34.length then(xGC N (x34.getD x36.toNat Ty.int.dflt)).bind fun r1=>bif(!r1) then(some false) else((xGg N k4 n x20 x21 x22 x34 x35 (i64.wrap (x36+1)) b1 b4)) else none) else((xEW N k4 N x20 x21 x22 b4.frm (b4.frm.length:Int) 0 b1 b4))
def xGf(N:Nat):Nat→(List Rowd)→Int→Int→Val→Option (Bool)
 |0,_,_,_,_=>none
 |n+1,x20,x21,x22,b1=>bif(decide (x22<x21)) then(if(0:Int)≤x22∧x22<x20.length then bif(((List.length (Rowd.cells (x20.getD x22.toNat Ty.row.dflt)):Int):Int) != (b1.columns.length:Int)) then(some false) else((xGg N (fun z0 z1 z2 z3=>(xGf N n z0 z1 z2 z3)) N x20 x21 x22 (Rowd.cells (x20.getD x22.toNat Ty.row.dflt)) (List.length (Rowd.cells (x20.getD x22.toNat Ty.row.dflt)):Int) 0 b1 (x20.getD x22.toNat Ty.row.dflt))) else none) else(some true)
def xIN(N:Nat)(a0:Val):Option (Bool):=(xIZ N a0.columns).bind fun r1=>bif(!r1) then(some false) else(bif(decide ((a0.rows.length:Int)>12)) then(some false) else((xGf N N a0.rows (a0.rows.length:Int) 0 a0)))
def xF9(a0:Val):List Arg:=[.val (.v true (Va .ro a0))]
def xEl(r:Int):CallO:=⟨.v false [.int .i64 r],[],[]⟩
def xGW(N:Nat)(q0:Val→Option (Int)):Nat→Int→(List Val)→Int→Int→Option (Int)
 |0,_,_,_,_=>none
 |n+1,x3,x7,x8,x9=>bif(decide (x9<x8)) then(if(0:Int)≤x9∧x9<x7.length then(q0 (x7.getD x9.toNat Ty.val.dflt)).bind fun r1=>(xGW N q0 n (if r1>x3 then r1 else x3) x7 x8 (i64.wrap (x9+1))) else none) else(some (i64.wrap (x3+1)))
def xJn(N:Nat)(q0:Val→Option (Int))(a0:Val):Option (Int):=(xGW N q0 N 0 a0.list (a0.list.length:Int) 0)
def xFI(N:Nat):Nat→Val→Option (Int)
 |0,_=>none
 |d+1,a0=>xJn N (xFI N d) a0
def xJL(N:Nat)(a0:Val):Option (Int):=xFI N N a0
def xAE(a0:Val):List Arg:=[.val (.v true (Va .ro a0))]
def xAy(r:Bool):CallO:=⟨.v false [.bool r],[],[]⟩
def xCk(N:Nat)(q0:Val→Option (Bool)):Nat→(List Val)→Int→Int→Val→Option (Bool)
 |0,_,_,_,_=>none
 |n+1,x124,x125,x126,b1=>bif(decide (x126<x125)) then(if(0:Int)≤x126∧x126<x124.length then bif(((Val.kind (x124.getD x126.toNat Ty.val.dflt)):Int) != 1) then(bif(((Val.kind (x124.getD x126.toNat Ty.val.dflt)):Int) != 2) then(bif(((Val.kind (x124.getD x126.toNat Ty.val.dflt)):Int) != 3) then(some false) else((q0 (x124.getD x126.toNat Ty.val.dflt)).bind fun r1=>bif(!r1) then(some false) else((xCk N q0 n x124 x125 (i64.wrap (x126+1)) b1)))) else((q0 (x124.getD x126.toNat Ty.val.dflt)).bind fun r1=>bif(!r1) then(some false) else((xCk N q0 n x124 x125 (i64.wrap (x126+1)) b1)))) else((q0 (x124.getD x126.toNat Ty.val.dflt)).bind fun r1=>bif(!r1) then(some false) else((xCk N q0 n x124 x125 (i64.wrap (x126+1)) b1))) else none) else(bif(b1.n==0) then(bif(b1.step==0) then(bif((b1.text:Str)== []) then(bif((b1.columns.length:Int)==0) then(bif((b1.rows.length:Int)==0) then(bif(decide ((b1.list.length:Int)≤8)) then((xJL N b1).bind fun r1=>some (decide (r1≤3))) else(some false)) else(some false)) else(some false)) else(some false)) else(some false)) else(some false))
def xE2(N:Nat)(q0:Val→Option (Bool))(a0:Val):Option (Bool):=bif((a0.list.length:Int)==0) then(bif((a0.columns.length:Int)==0) then(bif(a0.kind==1) then(bif((a0.rows.length:Int)==0) then(bif(a0.step==0) then(bif((a0.text:Str)== []) then((xGC N a0.n).bind fun r1=>some r1) else(some false)) else(some false)) else(some false)) else(bif(a0.kind==2) then(bif((a0.rows.length:Int)==0) then(bif(a0.n==0) then(bif(a0.step==0) then((xIw N a0.text).bind fun r1=>some r1) else(some false)) else(some false)) else(some false)) else(bif(a0.kind==4) then(bif((a0.rows.length:Int)==0) then(bif((a0.text:Str)== []) then((xGC N a0.n).bind fun r1=>bif r1 then((xGC N a0.step).bind fun r2=>some r2) else(some false)) else(some false)) else(some false)) else(bif(a0.kind==6) then(bif((a0.rows.length:Int)==0) then(bif(a0.step==0) then(bif((a0.text:Str)== []) then((xHX N a0.n 1 8).bind fun r1=>some r1) else(some false)) else(some false)) else(some false)) else(bif(a0.kind==5) then(bif(a0.n==0) then(bif(a0.step==0) then(bif((a0.text:Str)== []) then((xIN N a0).bind fun r1=>some r1) else(some false)) else(some false)) else(some false)) else(bif(a0.kind==3) then((xCk N q0 N a0.list (a0.list.length:Int) 0 a0)) else(some false))))))) else(bif(a0.kind==1) then(some false) else(bif(a0.kind==2) then(some false) else(bif(a0.kind==4) then(some false) else(bif(a0.kind==6) then(
     some false) else(bif(a0.kind==5) then(bif(a0.n==0) then(bif(a0.step==0) then(bif((a0.text:Str)== []) then((xIN N a0).bind fun r1=>some r1) else(some false)) else(some false)) else(some false)) else(bif(a0.kind==3) then((xCk N q0 N a0.list (a0.list.length:Int) 0 a0)) else(some false)))))))) else(bif(a0.kind==1) then(some false) else(bif(a0.kind==2) then(some false) else(bif(a0.kind==4) then(some false) else(bif(a0.kind==6) then(some false) else(bif(a0.kind==5) then(bif(a0.n==0) then(bif(a0.step==0) then(bif((a0.text:Str)== []) then(some false) else(some false)) else(some false)) else(some false)) else(bif(a0.kind==3) then((xCk N q0 N a0.list (a0.list.length:Int) 0 a0)) else(some false)))))))
def xCl(N:Nat):Nat→Val→Option (Bool)
 |0,_=>none
 |d+1,a0=>xE2 N (xCl N d) a0
def xH5(N:Nat)(a0:Val):Option (Bool):=xCl N N a0
def xDT(a0:Int):List Arg:=[.val (.v false [.int .i64 a0])]
def xBq(r:Val):CallO:=⟨.v true (Va .own r),[],[]⟩
def xBL(N:Nat)(a0:Int):Option (Val):=some (Val.mk 6 a0 0 [] [] [] [])
def xEg(a0:List Val):List Arg:=[.val (.v false [.sl .ro .val a0])]
def xEF(r:Val×Bool×Bool):CallO:=⟨.tup [(true,[.int .i64 (Val.kind r.1),.int .i64 (Val.n r.1),.int .i64 (Val.step r.1),.str (Val.text r.1),.sl .ro .val (Val.list r.1),.sl .ro .str (Val.columns r.1),.sl .ro .row (Val.rows r.1)]),(false,[.bool r.2.1])],[],[]⟩
def xEE(r:Val×Bool×Bool):CallO:=⟨.tup [(true,[.int .i64 (Val.kind r.1),.int .i64 (Val.n r.1),.int .i64 (Val.step r.1),.str (Val.text r.1),.sl .own .val (Val.list r.1),.sl .own .str (Val.columns r.1),.sl .own .row (Val.rows r.1)]),(false,[.bool r.2.1])],[],[]⟩
def xDa(r:Val×Bool×Bool):CallO:=bif r.2.2 then xEF r else xEE r
def xDP(N:Nat):Nat→(List Val)→Int→Int→Val→Option (Val×Bool×Bool)
 |0,_,_,_,_=>none
 |n+1,x6,x7,x8,b2=>bif(decide (x8<x7)) then(if(0:Int)≤x8∧x8<x6.length then(xH5 N (x6.getD x8.toNat Ty.val.dflt)).bind fun r1=>bif(!r1) then((xBL N 4).bind fun r2=>some (r2,true,false)) else(bif(((Val.kind (x6.getD x8.toNat Ty.val.dflt)):Int)==6) then(some ((x6.getD x8.toNat Ty.val.dflt),true,true)) else((xDP N n x6 x7 (i64.wrap (x8+1)) b2))) else none) else(some ((Val.mk 0 0 0 [] [] [] []),false,false))
def xH8(N:Nat)(a0:List Val):Option (Val×Bool×Bool):=(xDP N N a0 (a0.length:Int) 0 (Val.mk 0 0 0 [] [] [] []))
def xD9(a0:List Int)(a1:List Val):List Arg:=[.val (.v false [.sl .ro .int a0]),.val (.v false [.sl .ro .val a1])]
def xI1(r:Val×Bool×Bool):CallO:=⟨.tup [(true,[.int .i64 (Val.kind r.1),.int .i64 (Val.n r.1),.int .i64 (Val.step r.1),.str (Val.text r.1),.sl .ro .val (Val.list r.1),.sl .ro .str (Val.columns r.1),.sl .ro .row (Val.rows r.1)]),(false,[.bool r.2.1])],[],[]⟩
def xCe(r:Val×Bool×Bool):CallO:=⟨.tup [(true,[.int .i64 (Val.kind r.1),.int .i64 (Val.n r.1),.int .i64 (Val.step r.1),.str (Val.text r.1),.sl .own .val (Val.list r.1),.sl .own .str (Val.columns r.1),.sl .own .row (Val.rows r.1)]),(false,[.bool r.2.1])],[],[]⟩
def xCt(r:Val×Bool×Bool):CallO:=⟨.tup [(true,[.int .i64 (Val.kind r.1),.int .i64 (Val.n r.1),.int .i64 (Val.step r.1),.str (Val.text r.1),.sl .ro .val [],.sl .ro .str [],.sl .ro .row []]),(false,[.bool r.2.1])],[],[]⟩
def xDf(r:Val×Bool×Bool):CallO:=bif r.2.2 then xI1 r else xCe r
def xEa(N:Nat):Nat→(List Int)→(List Val)→Int→Int→Val→Option (Val×Bool×Bool)
 |0,_,_,_,_,_=>none
 |n+1,x0,x17,x18,x19,b4=>bif(decide (x19<x18)) then(if(0:Int)≤x19∧x19<x17.length then if(0:Int)≤x19∧x19<x0.length then bif(((Val.kind (x17.getD x19.toNat Ty.val.dflt)):Int) != (x0.getD x19.toNat Ty.int.dflt)) then((xBL N 4).bind fun r1=>some (r1,true,false)) else((xEa N n x0 x17 x18 (i64.wrap (x19+1)) b4)) else none else none) else(some ((Val.mk 0 0 0 [] [] [] []),false,false))
def xHB(N:Nat)(a0:List Int)(a1:List Val):Option (Val×Bool×Bool):=(xH8 N a1).bind fun r1=>bif r1.2.2 then(bif r1.2.1 then(some (r1.1,true,true)) else((xEa N N a0 a1 (a1.length:Int) 0 (Val.mk 0 0 0 [] [] [] [])))) else(bif r1.2.1 then(some (r1.1,true,false)) else((xEa N N a0 a1 (a1.length:Int) 0 (Val.mk 0 0 0 [] [] [] []))))
def xHe(a0:Val)(a1:Str):List Arg:=[.val (.v true (Va .ro a0)),.val (.v false [.str a1])]
def xA0(r:Int):CallO:=⟨.v false [.int .i64 r],[],[]⟩
def xD5(N:Nat)(a0:Val)(a1:Str):Option (Int):=(xIJ N a0.columns a1).bind fun r1=>some r1
def xIY(a0:List Str)(a1:List Str):List Arg:=[.val (.v false [.sl .ro .str a0]),.val (.v false [.sl .ro .str a1])]
def xC5(r:(List Str)):CallO:=⟨.v false [.sl .own .str r],[],[]⟩
def xFu(N:Nat):Nat→(List Str)→(List Str)→(List Str)→Int→Int→Option ((List Str))
 |0,_,_,_,_,_=>none
 |n+1,x1,x5,x9,x10,x11=>bif(decide (x11<x10)) then(if(0:Int)≤x11∧x11<x9.length then(xIJ N x1 (x9.getD x11.toNat Ty.str.dflt)).bind fun r1=>bif(decide (r1<0)) then(if x5.length+ [(x9.getD x11.toNat Ty.str.dflt)].length≤Lim then(xFu N n x1 (x5++ [(x9.getD x11.toNat Ty.str.dflt)]) x9 x10 (i64.wrap (x11+1))) else none) else((xFu N n x1 x5 x9 x10 (i64.wrap (x11+1)))) else none) else(some x5)
def xIL(N:Nat)(a0:List Str)(a1:List Str):Option ((List Str)):=(xFu N N a1 [] a0 (a0.length:Int) 0)
def xIg(a0:List Org)(a1:List Org):List Arg:=[.val (.v false [.sl .ro .org a0]),.val (.v false [.sl .ro .org a1])]
def xGU(r:(List Org)):CallO:=⟨.v false [.sl .own .org r],[],[]⟩
def xH6(N:Nat)(a0 a1:List Org):Option (List Org):=zJr a0 a1
def xCE(a0:Val)(a1:Val)(a2:Val):List Arg:=[.val (.v true (Va .ro a0)),.val (.v true (Va .ro a1)),.val (.v true (Va .ro a2))]
def xKj(r:Val×Bool):CallO:=⟨.v true [.int .i64 (Val.kind r.1),.int .i64 (Val.n r.1),.int .i64 (Val.step r.1),.str (Val.text r.1),.sl .ro .val (Val.list r.1),.sl .ro .str (Val.columns r.1),.sl .ro .row (Val.rows r.1)],[],[]⟩
def xAw(r:Val×Bool):CallO:=⟨.v true [.int .i64 (Val.kind r.1),.int .i64 (Val.n r.1),.int .i64 (Val.step r.1),.str (Val.text r.1),.sl .own .val (Val.list r.1),.sl .own .str (Val.columns r.1),.sl .own .row (Val.rows r.1)],[],[]⟩
def xAx(r:Val×Bool):CallO:=⟨.v true [.int .i64 (Val.kind r.1),.int .i64 (Val.n r.1),.int .i64 (Val.step r.1),.str (Val.text r.1),.sl .ro .val [],.sl .ro .str [],.sl .ro .row []],[],[]⟩
def xDL(r:Val×Bool):CallO:=bif r.2 then xKj r else xAw r
def xGc(N:Nat)(k13:Int→Int→(List Rowd)→Int→Int→Val→Val→Val→Option (Val×Bool)):Nat→Int→Int→(List Rowd)→Int→Int→(List Rowd)→Int→Int→Val→Val→Val→Rowd→Option (Val×Bool)
 |0,_,_,_,_,_,_,_,_,_,_,_,_=>none
 |n+1,x9,x10,x69,x70,x71,x76,x77,x78,b5,b6,b12,b14=>bif(decide (x78<x77)) then(if(0:Int)≤x78∧x78<x76.length then if(0:Int)≤x9∧x9<b14.cells.length then if(0:Int)≤x10∧x10<(List.length (Rowd.cells (x76.getD x78.toNat Ty.row.dflt))) then bif((b14.cells.getD x9.toNat Ty.int.dflt) != (List.getD (Rowd.cells (x76.getD x78.toNat Ty.row.dflt)) x10.toNat Ty.int.dflt)) then((xGc N k13 n x9 x10 x69 x70 x71 x76 x77 (i64.wrap (x78+1)) b5 b6 b12 b14)) else(if 0+b14.cells.length≤Lim then if(0:Int)≤x10∧x10≤(List.length (Rowd.cells (x76.getD x78.toNat Ty.row.dflt))) then if List.length ([]++b14.cells)+List.length (List.take x10.toNat (Rowd.cells (x76.getD x78.toNat Ty.row.dflt)))≤Lim then if(0:Int)≤(i64.wrap (x10+1))∧(i64.wrap (x10+1))≤(List.length (Rowd.cells (x76.getD x78.toNat Ty.row.dflt))) then if List.length (([]++b14.cells)++(List.take x10.toNat (Rowd.cells (x76.getD x78.toNat Ty.row.dflt))))+List.length (List.drop (Int.toNat (i64.wrap (x10+1))) (Rowd.cells (x76.getD x78.toNat Ty.row.dflt)))≤Lim then(xH6 N b14.frm (Rowd.frm (x76.getD x78.toNat Ty.row.dflt))).bind fun r1=>if b12.rows.length+List.length [(Rowd.mk ((([]++b14.cells)++(List.take x10.toNat (Rowd.cells (x76.getD x78.toNat Ty.row.dflt))))++(List.drop (Int.toNat (i64.wrap (x10+1))) (Rowd.cells (x76.getD x78.toNat Ty.row.dflt)))) r1)]≤Lim then(xGc N k13 n x9 x10 x69 x70 x71 x76 x77 (i64.wrap (x78+1)) b5 b6 (Val.mk b12.kind b12.n b12.step b12.text b12.list b12.columns (b12.rows++ [(Rowd.mk ((([]++b14.cells)++(List.take x10.toNat (Rowd.cells (x76.getD x78.toNat Ty.row.dflt))))++(List.drop (Int.toNat (i64.wrap (x10+1))) (Rowd.cells (x76.getD x78.toNat Ty.row.dflt)))) r1)])) b14)
    else none else none else none else none else none else none) else none else none else none) else((k13 x9 x10 x69 x70 (i64.wrap (x71+1)) b5 b6 b12))
def xEL(N:Nat):Nat→Int→Int→(List Rowd)→Int→Int→Val→Val→Val→Option (Val×Bool)
 |0,_,_,_,_,_,_,_,_=>none
 |n+1,x9,x10,x69,x70,x71,b5,b6,b12=>bif(decide (x71<x70)) then(if(0:Int)≤x71∧x71<x69.length then(xGc N (fun z0 z1 z2 z3 z4 z5 z6 z7=>(xEL N n z0 z1 z2 z3 z4 z5 z6 z7)) N x9 x10 x69 x70 x71 b5.rows (b5.rows.length:Int) 0 b5 b6 b12 (x69.getD x71.toNat Ty.row.dflt)) else none) else(bif(decide ((b12.rows.length:Int)>12)) then((xBL N 6).bind fun r1=>some (r1,false)) else(some (b12,false)))
def xB4(N:Nat)(a0:Val)(a1:Val)(a2:Val):Option (Val×Bool):=(xHB N [2,5,5] [a0.re,a1.re,a2.re]).bind fun r1=>bif r1.2.2 then(if List.isEmpty r1.1.list=true then if List.isEmpty r1.1.columns=true then if List.isEmpty r1.1.rows=true then bif r1.2.1 then(some ((Val.mk r1.1.kind r1.1.n r1.1.step r1.1.text [] [] []),true)) else((xD5 N a1 a0.text).bind fun r2=>(xD5 N a2 a0.text).bind fun r3=>(xIL N a2.columns [a0.text]).bind fun r4=>if 0+a1.columns.length≤Lim then if List.length ([]++a1.columns)+r4.length≤Lim then bif(decide (r2<0)) then((xBL N 7).bind fun r5=>some (r5,false)) else(bif(decide (r3<0)) then((xBL N 7).bind fun r5=>some (r5,false)) else((xGv N (([]++a1.columns)++r4)).bind fun r5=>bif(!r5) then((xBL N 7).bind fun r6=>some (r6,false)) else(bif(decide (((List.length (([]++a1.columns)++r4):Int):Int)>4)) then((xBL N 6).bind fun r6=>some (r6,false)) else((xEL N N r2 r3 a1.rows (a1.rows.length:Int) 0 a2 (Val.mk 0 0 0 [] [] [] []) (Val.mk 5 0 0 [] [] (([]++a1.columns)++r4) [])))))) else none else none) else none else none else none) else(bif r1.2.1 then(some (r1.1,false)) else((xD5 N a1 a0.text).bind fun r2=>(xD5 N a2 a0.text).bind fun r3=>(xIL N a2.columns [a0.text]).bind fun r4=>if 0+a1.columns.length≤Lim then if List.length ([]++a1.columns)+r4.length≤Lim then bif(decide (r2<0)) then((xBL N 7).bind fun r5=>some (r5,false)) else(bif(decide (r3<0)) then((xBL N 7).bind fun r5=>
     some (r5,false)) else((xGv N (([]++a1.columns)++r4)).bind fun r5=>bif(!r5) then((xBL N 7).bind fun r6=>some (r6,false)) else(bif(decide (((List.length (([]++a1.columns)++r4):Int):Int)>4)) then((xBL N 6).bind fun r6=>some (r6,false)) else((xEL N N r2 r3 a1.rows (a1.rows.length:Int) 0 a2 (Val.mk 0 0 0 [] [] [] []) (Val.mk 5 0 0 [] [] (([]++a1.columns)++r4) [])))))) else none else none))
def xOv(N:Nat):Nat→(List Int)→Int→Int→Option (Int×(List Int))
 |0,_,_,_=>none
 |n+1,x0,x1,x5=>bif(decide (x5<(x0.length:Int))) then(if(0:Int)≤x5∧x5<x0.length then(xOv N n (x0.set x5.toNat x1) (i64.wrap (x1+1)) (i64.wrap (x5+1))) else none) else(some (x1,x0))
def xLA(a0:List Int):List Arg:=[.val (.v false [.sl .ro .byte a0])]
def xAF(r:Bool):CallO:=⟨.v false [.bool r],[],[]⟩
def xMr(N:Nat)(a0:List Int):Option (Bool):=some (decide ((a0.length:Int)>1048576))
def xGI(a0:List Int):List Arg:=[.val (.v false [.sl .ro .byte a0])]
def xDI(r:Cur):CallO:=⟨.tup [(false,[.ptr 0 0]),(true,(Cu .ro r))],[],[]⟩
def xIc(N:Nat):Nat→(List Int)→Int→Int→Option (Cur)
 |0,_,_,_=>none
 |n+1,x0,x3,x4=>bif(decide (x4<(x0.length:Int))) then(bif(decide (x4<4000)) then(if(0:Int)≤x4∧x4<x0.length then(xIc N n x0 (andI .i64 (i64.wrap ((i64.wrap ((i64.wrap (x3*131))+(i64.wrap ((x0.getD x4.toNat Ty.byte.dflt)))))+7)) 1073741823) (i64.wrap (x4+1))) else none) else(some (Cur.mk x0 0 x3))) else(some (Cur.mk x0 0 x3))
def xIR(N:Nat)(a0:List Int):Option (Cur):=(xIc N N a0 (i64.wrap (26583+(a0.length:Int))) 0)
def xFq(a0:Cur):List Arg:=[.box (Cu .ro a0)]
def xDB(r:Int×Cur):CallO:=⟨.v false [.int .i64 r.1],[(Cu .ro r.2)],[]⟩
def xHm(N:Nat)(a0:Cur):Option (Int×Cur):=bif(decide (a0.i<(a0.b.length:Int))) then(if(0:Int)≤a0.i∧a0.i<a0.b.length then some ((andI .i64 (i64.wrap ((andI .i64 (xorI .i64 (Int.fdiv (i64.wrap ((i64.wrap (a0.h*6364136223846793005))+1442695040888963407)) ((2:Int) ^ (Int.toNat 33))) (Int.fdiv (i64.wrap ((i64.wrap (a0.h*6364136223846793005))+1442695040888963407)) ((2:Int) ^ (Int.toNat 45)))) 255)+(i64.wrap ((a0.b.getD a0.i.toNat Ty.byte.dflt))))) 255),(Cur.mk a0.b (i64.wrap (a0.i+1)) (i64.wrap ((i64.wrap (a0.h*6364136223846793005))+1442695040888963407)))) else none) else(some ((andI .i64 (xorI .i64 (Int.fdiv (i64.wrap ((i64.wrap (a0.h*6364136223846793005))+1442695040888963407)) ((2:Int) ^ (Int.toNat 33))) (Int.fdiv (i64.wrap ((i64.wrap (a0.h*6364136223846793005))+1442695040888963407)) ((2:Int) ^ (Int.toNat 45)))) 255),(Cur.mk a0.b a0.i (i64.wrap ((i64.wrap (a0.h*6364136223846793005))+1442695040888963407)))))
def xBp(a0:Cur)(a1:Int):List Arg:=[.box (Cu .ro a0),.val (.v false [.int .i64 a1])]
def xAH(r:Int×Cur):CallO:=⟨.v false [.int .i64 r.1],[(Cu .ro r.2)],[]⟩
def xB0(N:Nat)(a0:Cur)(a1:Int):Option (Int×Cur):=bif(decide (a1≤0)) then(some (0,a0)) else(bif(decide (a1≤256)) then((xHm N a0).bind fun r1=>if a1≠(0:Int) then some ((Int.tmod r1.1 a1),r1.2) else none) else((xHm N a0).bind fun r1=>(xHm N r1.2).bind fun r2=>(xHm N r2.2).bind fun r3=>(xHm N r3.2).bind fun r4=>if a1≠(0:Int) then some ((Int.tmod (i64.wrap ((i64.wrap ((i64.wrap ((i64.wrap (r1.1*16777216))+(i64.wrap (r2.1*65536))))+(i64.wrap (r3.1*256))))+r4.1)) a1),r4.2) else none))
def xBx(a0:Cur)(a1:Int):List Arg:=[.box (Cu .ro a0),.val (.v false [.int .i64 a1])]
def xAS(r:Bool×Cur):CallO:=⟨.v false [.bool r.1],[(Cu .ro r.2)],[]⟩
def xDS(N:Nat)(a0:Cur)(a1:Int):Option (Bool×Cur):=(xB0 N a0 a1).bind fun r1=>some ((r1.1==0),r1.2)
def xJC(a0:Cur):List Arg:=[.box (Cu .ro a0)]
def xHF(r:(List Org)×Cur):CallO:=⟨.v false [.sl .own .org r.1],[(Cu .ro r.2)],[]⟩
def xHE(N:Nat):Nat→(List Org)→Int→Int→Int→Cur→Option ((List Org)×Cur)
 |0,_,_,_,_,_=>none
 |n+1,x3,x4,x5,x6,b0=>bif(decide (x6<x5)) then((xB0 N b0 2).bind fun r1=>if x3.length+ [(Org.mk x4 (i64.wrap (x6+(i64.wrap (r1.1*2)))))].length≤Lim then(xB0 N r1.2 2).bind fun r2=>(xHE N n (x3++ [(Org.mk x4 (i64.wrap (x6+(i64.wrap (r1.1*2)))))]) (i64.wrap ((i64.wrap (x4+1))+r2.1)) x5 (i64.wrap (x6+1)) r2.2) else none) else(some (x3,b0))
def xLL(N:Nat)(a0:Cur):Option ((List Org)×Cur):=(xB0 N a0 3).bind fun r1=>(xHE N N [] 1 r1.1 0 r1.2)
def xGZ(a0:Cur)(a1:List Int):List Arg:=[.box (Cu .ro a0),.val (.v false [.sl .ro .int a1])]
def xFg(r:Int×Cur):CallO:=⟨.v false [.int .i64 r.1],[(Cu .ro r.2)],[]⟩
def xGO(N:Nat)(a0:Cur)(a1:List Int):Option (Int×Cur):=(xB0 N a0 (a1.length:Int)).bind fun r1=>if(0:Int)≤r1.1∧r1.1<a1.length then some ((a1.getD r1.1.toNat Ty.int.dflt),r1.2) else none
def xEd(a0:Cur):List Arg:=[.box (Cu .ro a0)]
def xCp(r:Int×Cur):CallO:=⟨.v false [.int .i64 r.1],[(Cu .ro r.2)],[]⟩
def xFh(N:Nat)(a0:Cur):Option (Int×Cur):=(xDS N a0 12).bind fun r1=>bif r1.1 then((xGO N r1.2 [1000000000,(-1000000000),999999999,500000000,40000]).bind fun r2=>some (r2.1,r2.2)) else((xB0 N r1.2 12).bind fun r2=>some ((i64.wrap (r2.1 - 3)),r2.2))
def xEC(a0:Cur):List Arg:=[.box (Cu .ro a0)]
def xCH(r:Val×Cur):CallO:=⟨.v true (Va .own r.1),[(Cu .ro r.2)],[]⟩
def xEh(N:Nat)(k10:Int→Int→Int→Cur→Val→Val→Option (Val×Cur)):Nat→Int→Int→Int→Int→Cur→Val→Val→Rowd→Option (Val×Cur)
 |0,_,_,_,_,_,_,_,_=>none
 |n+1,x4,x6,x7,x9,b0,b2,b5,b8=>bif(decide (x9<x4)) then((xFh N b0).bind fun r1=>if b8.cells.length+ [r1.1].length≤Lim then(xEh N k10 n x4 x6 x7 (i64.wrap (x9+1)) r1.2 b2 b5 (Rowd.mk (b8.cells++ [r1.1]) b8.frm)) else none) else(if b5.rows.length+ [b8].length≤Lim then(k10 x4 x6 (i64.wrap (x7+1)) b0 b2 (Val.mk b5.kind b5.n b5.step b5.text b5.list b5.columns (b5.rows++ [b8]))) else none)
def xDc(N:Nat):Nat→Int→Int→Int→Cur→Val→Val→Option (Val×Cur)
 |0,_,_,_,_,_,_=>none
 |n+1,x4,x6,x7,b0,b2,b5=>bif(decide (x7<x6)) then((xLL N b0).bind fun r1=>(xEh N (fun z0 z1 z2 z3 z4 z5=>(xDc N n z0 z1 z2 z3 z4 z5)) N x4 x6 x7 0 r1.2 b2 b5 (Rowd.mk [] r1.1))) else(some (b5,b0))
def xEZ(N:Nat)(a0:Cur):Option (Val×Cur):=(xB0 N a0 3).bind fun r1=>if(0:Int)≤(i64.wrap (1+r1.1))∧(i64.wrap (1+r1.1))≤(List.length ([[97],[98],[99],[120]]:List Str)) then if 0+List.length (List.take (Int.toNat (i64.wrap (1+r1.1))) ([[97],[98],[99],[120]]:List Str))≤Lim then(xDS N r1.2 5).bind fun r2=>bif r2.1 then(if(0:Int)≤0∧(0:Int)<(List.length ([]++(List.take (Int.toNat (i64.wrap (1+r1.1))) ([[97],[98],[99],[120]]:List Str)))) then if(0:Int)≤1∧(1:Int)≤(List.length ((fun(z8:List Str)=>z8.set (Int.toNat 0) [120]) ([]++(List.take (Int.toNat (i64.wrap (1+r1.1))) ([[97],[98],[99],[120]]:List Str))))) then(xB0 N r2.2 6).bind fun r3=>(xDc N N 1 r3.1 0 r3.2 (Val.mk 0 0 0 [] [] [] []) (Val.mk 5 0 0 [] [] (List.take (Int.toNat 1) ((fun(z8:List Str)=>z8.set (Int.toNat 0) [120]) ([]++(List.take (Int.toNat (i64.wrap (1+r1.1))) ([[97],[98],[99],[120]]:List Str))))) [])) else none else none) else((xB0 N r2.2 6).bind fun r3=>(xDc N N (i64.wrap (1+r1.1)) r3.1 0 r3.2 (Val.mk 0 0 0 [] [] [] []) (Val.mk 5 0 0 [] [] ([]++(List.take (Int.toNat (i64.wrap (1+r1.1))) ([[97],[98],[99],[120]]:List Str))) []))) else none else none
def xHk(a0:Int):List Arg:=[.val (.v false [.int .i64 a0])]
def xCG(r:Val):CallO:=⟨.v true (Va .own r),[],[]⟩
def xDs(N:Nat)(a0:Int):Option (Val):=some (Val.mk 1 a0 0 [] [] [] [])
def xGP(a0:Cur)(a1:List Str):List Arg:=[.box (Cu .ro a0),.val (.v false [.sl .ro .str a1])]
def xEq(r:Str×Cur):CallO:=⟨.v false [.str r.1],[(Cu .ro r.2)],[]⟩
def xHo(N:Nat)(a0:Cur)(a1:List Str):Option (Str×Cur):=(xB0 N a0 (a1.length:Int)).bind fun r1=>if(0:Int)≤r1.1∧r1.1<a1.length then some ((a1.getD r1.1.toNat Ty.str.dflt),r1.2) else none
def xHH(a0:Cur):List Arg:=[.box (Cu .ro a0)]
def xFt(r:Str×Cur):CallO:=⟨.v false [.str r.1],[(Cu .ro r.2)],[]⟩
def xII(N:Nat)(a0:Cur):Option (Str×Cur):=(xHo N a0 [[],[97],[98],[97,98],[104,101,108,108,111],[116,119,101,110,116,121,32,99,104,97,114,97,99,116,101,114,115,32,111,107],[110,105,110,101,116,101,101,110,32,99,104,97,114,97,99,116,101,114,46]]).bind fun r1=>some (r1.1,r1.2)
def xFf(a0:Str):List Arg:=[.val (.v false [.str a0])]
def xDu(r:Val):CallO:=⟨.v true (Va .own r),[],[]⟩
def xFp(N:Nat)(a0:Str):Option (Val):=some (Val.mk 2 0 0 a0 [] [] [])
def xET(a0:Cur)(a1:Int):List Arg:=[.box (Cu .ro a0),.val (.v false [.int .i64 a1])]
def xDC(r:Val×Cur):CallO:=⟨.v true (Va .own r.1),[(Cu .ro r.2)],[]⟩
def xEU(N:Nat)(q0:Cur→Int→Option (Val×Cur))(q1:Cur→Int→Option (Val×Cur)):Nat→Int→Int→Int→Cur→Val→Val→Option (Val×Cur)
 |0,_,_,_,_,_,_=>none
 |n+1,x1,x6,x7,b0,b4,b5=>bif(decide (x7<x6)) then((q1 b0 x1).bind fun r1=>if b5.list.length+ [r1.1.re].length≤Lim then(xEU N q0 q1 n x1 x6 (i64.wrap (x7+1)) r1.2 b4 (Val.mk b5.kind b5.n b5.step b5.text (b5.list++ [r1.1.re]) b5.columns b5.rows)) else none) else(some (b5,b0))
def xFR(N:Nat)(q0:Cur→Int→Option (Val×Cur))(q1:Cur→Int→Option (Val×Cur))(a0:Cur)(a1:Int):Option (Val×Cur):=(xGO N a0 [0,1,2,3,3,4,5,8]).bind fun r1=>(xEU N q0 q1 N a1 r1.1 0 r1.2 (Val.mk 0 0 0 [] [] [] []) (Val.mk 3 0 0 [] [] [] []))
def xDW(a0:Cur)(a1:Int):List Arg:=[.box (Cu .ro a0),.val (.v false [.int .i64 a1])]
def xDD(r:Val×Cur):CallO:=⟨.v true (Va .own r.1),[(Cu .ro r.2)],[]⟩
def xFS(N:Nat)(q0:Cur→Int→Option (Val×Cur))(q1:Cur→Int→Option (Val×Cur))(a0:Cur)(a1:Int):Option (Val×Cur):=bif(decide (a1>1)) then((xDS N a0 4).bind fun r1=>bif r1.1 then((q0 r1.2 (i64.wrap (a1 - 1))).bind fun r2=>some (r2.1,r2.2)) else((xDS N r1.2 4).bind fun r2=>bif r2.1 then((xII N r2.2).bind fun r3=>(xFp N r3.1).bind fun r4=>some (r4,r3.2)) else((xFh N r2.2).bind fun r3=>(xDs N r3.1).bind fun r4=>some (r4,r3.2)))) else((xDS N a0 4).bind fun r1=>bif r1.1 then((xII N r1.2).bind fun r2=>(xFp N r2.1).bind fun r3=>some (r3,r2.2)) else((xFh N r1.2).bind fun r2=>(xDs N r2.1).bind fun r3=>some (r3,r2.2)))
structure spec_l3DrawList_rec where
 c_spec_l3DrawList:Cur→Int→Option (Val×Cur)
 c_spec_l3Element2:Cur→Int→Option (Val×Cur)
def xBr(N:Nat):Nat→spec_l3DrawList_rec
 |0=>⟨fun _ _=>none,fun _ _=>none⟩
 |d+1=>⟨xFR N (xBr N d).c_spec_l3DrawList (xBr N d).c_spec_l3Element2,xFS N (xBr N d).c_spec_l3DrawList (xBr N d).c_spec_l3Element2⟩
def xKG(N:Nat)(a0:Cur)(a1:Int):Option (Val×Cur):=(xBr N N).c_spec_l3DrawList a0 a1
def xIe(a0:Cur):List Arg:=[.box (Cu .ro a0)]
def xF4(r:Val×Cur):CallO:=⟨.v true (Va .own r.1),[(Cu .ro r.2)],[]⟩
def xFi(N:Nat):Nat→Int→Int→Cur→Val→Val→Option (Val×Cur)
 |0,_,_,_,_,_=>none
 |n+1,x4,x5,b0,b2,b3=>bif(decide (x5<x4)) then((xFh N b0).bind fun r1=>(xDs N r1.1).bind fun r2=>if b3.list.length+ [r2.re].length≤Lim then(xFi N n x4 (i64.wrap (x5+1)) r1.2 b2 (Val.mk b3.kind b3.n b3.step b3.text (b3.list++ [r2.re]) b3.columns b3.rows)) else none) else(some (b3,b0))
def xJD(N:Nat)(a0:Cur):Option (Val×Cur):=(xB0 N a0 9).bind fun r1=>(xFi N N r1.1 0 r1.2 (Val.mk 0 0 0 [] [] [] []) (Val.mk 3 0 0 [] [] [] []))
def xHl(a0:Int)(a1:Int):List Arg:=[.val (.v false [.int .i64 a0]),.val (.v false [.int .i64 a1])]
def xGn(r:Val):CallO:=⟨.v true (Va .own r),[],[]⟩
def xJY(N:Nat)(a0:Int)(a1:Int):Option (Val):=some (Val.mk 4 a0 a1 [] [] [] [])
def xDN(a0:Cur):List Arg:=[.box (Cu .ro a0)]
def xB7(r:Val×Cur):CallO:=⟨.v true (Va .own r.1),[(Cu .ro r.2)],[]⟩
def xIG(N:Nat)(a0:Cur):Option (Val×Cur):=(xB0 N a0 10).bind fun r1=>bif(r1.1==0) then((xFh N r1.2).bind fun r2=>(xDs N r2.1).bind fun r3=>some (r3,r2.2)) else(bif(r1.1==1) then((xFh N r1.2).bind fun r2=>(xDs N r2.1).bind fun r3=>some (r3,r2.2)) else(bif(r1.1==2) then((xFh N r1.2).bind fun r2=>(xDs N r2.1).bind fun r3=>some (r3,r2.2)) else(bif(r1.1==3) then((xII N r1.2).bind fun r2=>(xFp N r2.1).bind fun r3=>some (r3,r2.2)) else(bif(r1.1==4) then((xKG N r1.2 3).bind fun r2=>some (r2.1,r2.2)) else(bif(r1.1==5) then((xJD N r1.2).bind fun r2=>some (r2.1,r2.2)) else(bif(r1.1==6) then((xFh N r1.2).bind fun r2=>(xFh N r2.2).bind fun r3=>(xJY N r2.1 r3.1).bind fun r4=>some (r4,r3.2)) else(bif(r1.1==7) then((xB0 N r1.2 8).bind fun r2=>(xBN N (i64.wrap (1+r2.1))).bind fun r3=>some (r3,r2.2)) else((xEZ N r1.2).bind fun r2=>some (r2.1,r2.2)))))))))
def xJz(a0:Cur):List Arg:=[.box (Cu .ro a0)]
def xIq(r:Str×Cur):CallO:=⟨.v false [.str r.1],[(Cu .ro r.2)],[]⟩
def xM5(N:Nat)(a0:Cur):Option (Str×Cur):=(xHo N a0 [[97],[98],[99],[100],[120],[121],[116],[117]]).bind fun r1=>some (r1.1,r1.2)
def xI8(a0:Cur):List Arg:=[.box (Cu .ro a0)]
def xId(r:Str×Cur):CallO:=⟨.v false [.str r.1],[(Cu .ro r.2)],[]⟩
def xMt(N:Nat)(a0:Cur):Option (Str×Cur):=(xDS N a0 2).bind fun r1=>bif r1.1 then((xM5 N r1.2).bind fun r2=>some (r2.1,r2.2)) else((xHo N r1.2 [[],[49,97],[97,49],[97,98,99,100,101,102,103,104],[97,98,99,100,101,102,103,104,105],[108,101,116],[116,97,98,108,101],[115,117,109],[115,117,109,115],[65],[97,95,98],[108,101,110]]).bind fun r2=>some (r2.1,r2.2))
def xDM(a0:Cur):List Arg:=[.box (Cu .ro a0)]
def xDb(r:Val×Cur):CallO:=⟨.v true (Va .own r.1),[(Cu .ro r.2)],[]⟩
def xH0(N:Nat)(a0:Cur):Option (Val×Cur):=(xIG N a0).bind fun r1=>(xB0 N r1.2 16).bind fun r2=>bif(r2.1==0) then(some ((Val.mk r1.1.kind (i64.wrap (r1.1.n+1000000000)) r1.1.step r1.1.text r1.1.list r1.1.columns r1.1.rows),r2.2)) else(bif(r2.1==1) then(if r1.1.text.length+ [120,34,121].length≤Lim then some ((Val.mk r1.1.kind r1.1.n r1.1.step (r1.1.text++ [120,34,121]) r1.1.list r1.1.columns r1.1.rows),r2.2) else none) else(bif(r2.1==2) then((xB0 N r2.2 8).bind fun r3=>some ((Val.mk r3.1 r1.1.n r1.1.step r1.1.text r1.1.list r1.1.columns r1.1.rows),r3.2)) else(bif(r2.1==3) then((xIG N r2.2).bind fun r3=>if r1.1.list.length+ [r3.1.re].length≤Lim then some ((Val.mk r1.1.kind r1.1.n r1.1.step r1.1.text (r1.1.list++ [r3.1.re]) r1.1.columns r1.1.rows),r3.2) else none) else(bif(r2.1==4) then(if r1.1.rows.length+List.length [(Rowd.mk [1] [(Org.mk 2 1),(Org.mk 1 1)])]≤Lim then some ((Val.mk r1.1.kind r1.1.n r1.1.step r1.1.text r1.1.list r1.1.columns (r1.1.rows++ [(Rowd.mk [1] [(Org.mk 2 1),(Org.mk 1 1)])])),r2.2) else none) else(bif(r2.1==5) then((xMt N r2.2).bind fun r3=>if r1.1.columns.length+ [r3.1].length≤Lim then some ((Val.mk r1.1.kind r1.1.n r1.1.step r1.1.text r1.1.list (r1.1.columns++ [r3.1]) r1.1.rows),r3.2) else none) else(bif(r2.1==6) then(some ((Val.mk r1.1.kind r1.1.n 7 r1.1.text r1.1.list r1.1.columns r1.1.rows),r2.2)) else(some (r1.1,r2.2))))))))
def xEV(a0:Cur):List Arg:=[.box (Cu .ro a0)]
def xCg(r:Val×Cur):CallO:=⟨.v true (Va .own r.1),[(Cu .ro r.2)],[]⟩
def xFB(N:Nat)(k3:Int→Cur→Val→Val→Option (Val×Cur)):Nat→Int→Int→Cur→Val→Val→Option (Val×Cur)
 |0,_,_,_,_,_=>none
 |n+1,x4,x5,b0,b2,b3=>if(0:Int)≤x4∧x4<b3.rows.length then bif(decide (x5<(List.length (Rowd.cells (b3.rows.getD x4.toNat Ty.row.dflt)):Int))) then((xDS N b0 8).bind fun r1=>bif(!r1.1) then((xB0 N r1.2 4).bind fun r2=>if(0:Int)≤x5∧x5<(List.length (Rowd.cells (b3.rows.getD x4.toNat Ty.row.dflt))) then(xFB N k3 n x4 (i64.wrap (x5+1)) r2.2 b2 (Val.mk b3.kind b3.n b3.step b3.text b3.list b3.columns (b3.rows.set x4.toNat (Rowd.mk ((fun(z1:List Int)=>z1.set x5.toNat r2.1) (Rowd.cells (b3.rows.getD x4.toNat Ty.row.dflt))) (Rowd.frm (b3.rows.getD x4.toNat Ty.row.dflt)))))) else none) else((xFB N k3 n x4 (i64.wrap (x5+1)) r1.2 b2 b3))) else((k3 (i64.wrap (x4+1)) b0 b2 b3)) else none
def xFA(N:Nat):Nat→Int→Cur→Val→Val→Option (Val×Cur)
 |0,_,_,_,_=>none
 |n+1,x4,b0,b2,b3=>bif(decide (x4<(b3.rows.length:Int))) then((xFB N (fun z0 z1 z2 z3=>(xFA N n z0 z1 z2 z3)) N x4 0 b0 b2 b3)) else((xDS N b0 12).bind fun r1=>bif r1.1 then((xH0 N r1.2).bind fun r2=>some (r2.1,r2.2)) else(some (b3,r1.2)))
def xFz(N:Nat)(a0:Cur):Option (Val×Cur):=(xEZ N a0).bind fun r1=>(xFA N N 0 r1.2 (Val.mk 0 0 0 [] [] [] []) r1.1)
def xFZ(a0:Cur):List Arg:=[.box (Cu .ro a0)]
def xD7(r:Val×Cur):CallO:=⟨.v true (Va .own r.1),[(Cu .ro r.2)],[]⟩
def xGR(N:Nat)(a0:Cur):Option (Val×Cur):=(xDS N a0 16).bind fun r1=>bif r1.1 then((xH0 N r1.2).bind fun r2=>some (r2.1,r2.2)) else((xHo N r1.2 [[97],[97],[97],[98],[98],[99],[120],[122],[]]).bind fun r2=>(xFp N r2.1).bind fun r3=>some (r3,r2.2))
def xHP(a0:List Int):List Arg:=[.val (.v false [.sl .ro .byte a0])]
def xAr(r:Val×Val×Val):CallO:=⟨.tup [(true,(Va .own r.1)),(true,(Va .own r.2.1)),(true,(Va .own r.2.2))],[],[]⟩
def xER(N:Nat):Nat→Int→Val→Val→Val→Val→Val→Cur→Option (Val×Val×Val)
 |0,_,_,_,_,_,_,_=>none
 |n+1,x8,b2,b3,b4,b6,b7,b10=>bif(decide (x8<(b7.columns.length:Int))) then((xDS N b10 6).bind fun r1=>bif(!r1.1) then(if(0:Int)≤x8∧x8<(List.length [[],[100],[101],[102],[103],[104]]) then if(0:Int)≤x8∧x8<b7.columns.length then(xER N n (i64.wrap (x8+1)) b2 b3 b4 b6 (Val.mk b7.kind b7.n b7.step b7.text b7.list (b7.columns.set x8.toNat (List.getD [[],[100],[101],[102],[103],[104]] x8.toNat Ty.str.dflt)) b7.rows) r1.2) else none else none) else((xGR N r1.2).bind fun r2=>some (r2.1,b6,b7))) else((xGR N b10).bind fun r1=>some (r1.1,b6,b7))
def xDt(N:Nat)(a0:List Int):Option (Val×Val×Val):=(xIR N a0).bind fun r1=>(xFz N r1).bind fun r2=>(xFz N r2.2).bind fun r3=>(xER N N 1 (Val.mk 0 0 0 [] [] [] []) (Val.mk 0 0 0 [] [] [] []) (Val.mk 0 0 0 [] [] [] []) r2.1 r3.1 r3.2)
def xGr(a0:List Str)(a1:List Str):List Arg:=[.val (.v false [.sl .ro .str a0]),.val (.v false [.sl .ro .str a1])]
def xDK(r:Bool):CallO:=⟨.v false [.bool r],[],[]⟩
def xG2(N:Nat):Nat→(List Str)→(List Str)→Int→Option (Bool)
 |0,_,_,_=>none
 |n+1,x0,x1,x5=>bif(decide (x5<(x0.length:Int))) then(if(0:Int)≤x5∧x5<x0.length then if(0:Int)≤x5∧x5<x1.length then bif(!(((x0.getD x5.toNat Ty.str.dflt):Str)==(x1.getD x5.toNat Ty.str.dflt))) then(some false) else((xG2 N n x0 x1 (i64.wrap (x5+1)))) else none else none) else(some true)
def xJT(N:Nat)(a0:List Str)(a1:List Str):Option (Bool):=bif((a0.length:Int) != (a1.length:Int)) then(some false) else((xG2 N N a0 a1 0))
def xIp(a0:List Int)(a1:List Int):List Arg:=[.val (.v false [.sl .ro .int a0]),.val (.v false [.sl .ro .int a1])]
def xEp(r:Bool):CallO:=⟨.v false [.bool r],[],[]⟩
def xHC(N:Nat):Nat→(List Int)→(List Int)→Int→Option (Bool)
 |0,_,_,_=>none
 |n+1,x0,x1,x5=>bif(decide (x5<(x0.length:Int))) then(if(0:Int)≤x5∧x5<x0.length then if(0:Int)≤x5∧x5<x1.length then bif((x0.getD x5.toNat Ty.int.dflt) != (x1.getD x5.toNat Ty.int.dflt)) then(some false) else((xHC N n x0 x1 (i64.wrap (x5+1)))) else none else none) else(some true)
def xKD(N:Nat)(a0:List Int)(a1:List Int):Option (Bool):=bif((a0.length:Int) != (a1.length:Int)) then(some false) else((xHC N N a0 a1 0))
def xF5(a0:List Org)(a1:List Org):List Arg:=[.val (.v false [.sl .ro .org a0]),.val (.v false [.sl .ro .org a1])]
def xDO(r:Bool):CallO:=⟨.v false [.bool r],[],[]⟩
def xF6(N:Nat):Nat→(List Org)→(List Org)→Int→Option (Bool)
 |0,_,_,_=>none
 |n+1,x0,x1,x5=>bif(decide (x5<(x0.length:Int))) then(if(0:Int)≤x5∧x5<x0.length then if(0:Int)≤x5∧x5<x1.length then bif(!((((Org.cell (x0.getD x5.toNat Ty.org.dflt)):Int)==(Org.cell (x1.getD x5.toNat Ty.org.dflt)))&&(((Org.row (x0.getD x5.toNat Ty.org.dflt)):Int)==(Org.row (x1.getD x5.toNat Ty.org.dflt))))) then(some false) else((xF6 N n x0 x1 (i64.wrap (x5+1)))) else none else none) else(some true)
def xIs(N:Nat)(a0:List Org)(a1:List Org):Option (Bool):=bif((a0.length:Int) != (a1.length:Int)) then(some false) else((xF6 N N a0 a1 0))
def xDm(a0:Val)(a1:Val)(a2:Bool):List Arg:=[.val (.v true (Va .ro a0)),.val (.v true (Va .ro a1)),.val (.v false [.bool a2])]
def xBZ(r:Bool):CallO:=⟨.v false [.bool r],[],[]⟩
def xFY(N:Nat)(q0:Val→Val→Bool→Option (Bool)):Nat→Bool→Int→Val→Val→Option (Bool)
 |0,_,_,_,_=>none
 |n+1,x2,x8,b3,b4=>bif(decide (x8<(b3.rows.length:Int))) then(if(0:Int)≤x8∧x8<b3.rows.length then if(0:Int)≤x8∧x8<b4.rows.length then(xKD N (Rowd.cells (b3.rows.getD x8.toNat Ty.row.dflt)) (Rowd.cells (b4.rows.getD x8.toNat Ty.row.dflt))).bind fun r1=>bif(!r1) then(some false) else(bif x2 then((xIs N (Rowd.frm (b3.rows.getD x8.toNat Ty.row.dflt)) (Rowd.frm (b4.rows.getD x8.toNat Ty.row.dflt))).bind fun r2=>bif(!r2) then(some false) else((xFY N q0 n x2 (i64.wrap (x8+1)) b3 b4))) else((xFY N q0 n x2 (i64.wrap (x8+1)) b3 b4))) else none else none) else(some true)
def xHG(N:Nat)(q0:Val→Val→Bool→Option (Bool)):Nat→Bool→Int→Val→Val→Option (Bool)
 |0,_,_,_,_=>none
 |n+1,x2,x7,b3,b4=>bif(decide (x7<(b3.list.length:Int))) then(if(0:Int)≤x7∧x7<b3.list.length then if(0:Int)≤x7∧x7<b4.list.length then(q0 (b3.list.getD x7.toNat Ty.val.dflt) (b4.list.getD x7.toNat Ty.val.dflt) x2).bind fun r1=>bif(!r1) then(some false) else((xHG N q0 n x2 (i64.wrap (x7+1)) b3 b4)) else none else none) else((xFY N q0 N x2 0 b3 b4))
def xHz(N:Nat)(q0:Val→Val→Bool→Option (Bool))(a0:Val)(a1:Val)(a2:Bool):Option (Bool):=bif(a0.kind != a1.kind) then(some false) else(bif(a0.n != a1.n) then(some false) else(bif(a0.step != a1.step) then(some false) else(bif(!((a0.text:Str)==a1.text)) then(some false) else(bif((a0.list.length:Int) != (a1.list.length:Int)) then(some false) else((xJT N a0.columns a1.columns).bind fun r1=>bif(!r1) then(some false) else(bif((a0.rows.length:Int) != (a1.rows.length:Int)) then(some false) else((xHG N q0 N a2 0 a0 a1))))))))
def xEs(N:Nat):Nat→Val→Val→Bool→Option (Bool)
 |0,_,_,_=>none
 |d+1,a0,a1,a2=>xHz N (xEs N d) a0 a1 a2
def xM9(N:Nat)(a0:Val)(a1:Val)(a2:Bool):Option (Bool):=xEs N N a0 a1 a2
def xGG(a0:Val)(a1:Val):List Arg:=[.val (.v true (Va .ro a0)),.val (.v true (Va .ro a1))]
def xAe(r:Bool):CallO:=⟨.v false [.bool r],[],[]⟩
def xAv(N:Nat)(a0:Val)(a1:Val):Option (Bool):=(xM9 N a0 a1 true).bind fun r1=>some r1
def xE4(a0:List Int):List Arg:=[.val (.v false [.sl .ro .byte a0])]
def xAi(r:Val×Val×Val):CallO:=⟨.tup [(true,(Va .own r.1)),(true,(Va .own r.2.1)),(true,(Va .own r.2.2))],[],[]⟩
def xFc(N:Nat)(a0:List Int):Option (Val×Val×Val):=(xIR N a0).bind fun r1=>(xB0 N r1 4).bind fun r2=>(xDs N r2.1).bind fun r3=>(xDS N r2.2 12).bind fun r4=>bif r4.1 then((xH0 N r4.2).bind fun r5=>(xGR N r5.2).bind fun r6=>(xFz N r6.2).bind fun r7=>some (r6.1,r5.1,r7.1)) else((xGR N r4.2).bind fun r5=>(xFz N r5.2).bind fun r6=>some (r5.1,r3,r6.1))
def xJa(a0:Rowd):List Arg:=[.val (.v true [.sl .ro .int a0.cells,.sl .ro .org a0.frm])]
def xHp(r:Rowd):CallO:=⟨.v true [.sl .own .int (Rowd.cells r),.sl .own .org (Rowd.frm r)],[],[]⟩
def xJ9(N:Nat)(a0:Rowd):Option (Rowd):=if 0+a0.cells.length≤Lim then if 0+a0.frm.length≤Lim then some (Rowd.mk ([]++a0.cells) ([]++a0.frm)) else none else none
def xFr(a0:Val):List Arg:=[.val (.v true (Va .ro a0))]
def xDl(r:Val):CallO:=⟨.v true (Va .own r),[],[]⟩
def xGQ(N:Nat)(q0:Val→Option (Val)):Nat→Int→Val→Val→Val→Option (Val)
 |0,_,_,_,_=>none
 |n+1,x5,b1,b2,b3=>bif(decide (x5<(b1.rows.length:Int))) then(if(0:Int)≤x5∧x5<b1.rows.length then(xJ9 N (b1.rows.getD x5.toNat Ty.row.dflt)).bind fun r1=>if b3.rows.length+ [r1].length≤Lim then(xGQ N q0 n (i64.wrap (x5+1)) b1 b2 (Val.mk b3.kind b3.n b3.step b3.text b3.list b3.columns (b3.rows++ [r1]))) else none else none) else(some b3)
def xHD(N:Nat)(q0:Val→Option (Val)):Nat→Int→Val→Val→Val→Option (Val)
 |0,_,_,_,_=>none
 |n+1,x4,b1,b2,b3=>bif(decide (x4<(b1.list.length:Int))) then(if(0:Int)≤x4∧x4<b1.list.length then(q0 (b1.list.getD x4.toNat Ty.val.dflt)).bind fun r1=>if b3.list.length+ [r1.re].length≤Lim then(xHD N q0 n (i64.wrap (x4+1)) b1 b2 (Val.mk b3.kind b3.n b3.step b3.text (b3.list++ [r1.re]) b3.columns b3.rows)) else none else none) else((xGQ N q0 N 0 b1 b2 b3))
def xHy(N:Nat)(q0:Val→Option (Val))(a0:Val):Option (Val):=if 0+a0.columns.length≤Lim then(xHD N q0 N 0 a0 (Val.mk 0 0 0 [] [] [] []) (Val.mk a0.kind a0.n a0.step a0.text [] ([]++a0.columns) [])) else none
def xGp(N:Nat):Nat→Val→Option (Val)
 |0,_=>none
 |d+1,a0=>xHy N (xGp N d) a0
def xIF(N:Nat)(a0:Val):Option (Val):=xGp N N a0
def xEB(a0:Int)(a1:Val):List Arg:=[.val (.v false [.int .i64 a0]),.val (.v true (Va .ro a1))]
def xDH(r:Val):CallO:=⟨.v true (Va .own r),[],[]⟩
def xFe(N:Nat):Nat→Int→Int→Val→Val→Option (Val)
 |0,_,_,_,_=>none
 |n+1,x0,x6,b4,b5=>bif(decide (x6<(b5.rows.length:Int))) then(if(0:Int)≤x6∧x6<b5.rows.length then(xFe N n x0 (i64.wrap (x6+1)) b4 (Val.mk b5.kind b5.n b5.step b5.text b5.list b5.columns (b5.rows.set x6.toNat (Rowd.mk (Rowd.cells (b5.rows.getD x6.toNat Ty.row.dflt)) [(Org.mk x0 x6)])))) else none) else(some b5)
def xHx(N:Nat)(a0:Int)(a1:Val):Option (Val):=bif(a1.kind != 5) then((xBN N 4).bind fun r1=>some r1) else((xFd N a1).bind fun r1=>bif(!r1) then((xBN N 4).bind fun r2=>some r2) else(bif(decide (a0<0)) then((xBN N 4).bind fun r2=>some r2) else((xIF N a1).bind fun r2=>(xFe N N a0 0 (Val.mk 0 0 0 [] [] [] []) r2))))
def xIA(a0:Cur)(a1:Int):List Arg:=[.box (Cu .ro a0),.val (.v false [.int .i64 a1])]
def xE0(r:Val×Cur):CallO:=⟨.v true (Va .own r.1),[(Cu .ro r.2)],[]⟩
def xGz(N:Nat)(k3:Int→Int→Cur→Val→Val→Option (Val×Cur)):Nat→Int→Int→Int→Cur→Val→Val→Option (Val×Cur)
 |0,_,_,_,_,_,_=>none
 |n+1,x1,x6,x7,b0,b4,b5=>if(0:Int)≤x6∧x6<b5.rows.length then bif(decide (x7<(List.length (Rowd.cells (b5.rows.getD x6.toNat Ty.row.dflt)):Int))) then((xB0 N b0 4).bind fun r1=>if(0:Int)≤x7∧x7<(List.length (Rowd.cells (b5.rows.getD x6.toNat Ty.row.dflt))) then(xGz N k3 n x1 x6 (i64.wrap (x7+1)) r1.2 b4 (Val.mk b5.kind b5.n b5.step b5.text b5.list b5.columns (b5.rows.set x6.toNat (Rowd.mk ((fun(z1:List Int)=>z1.set x7.toNat r1.1) (Rowd.cells (b5.rows.getD x6.toNat Ty.row.dflt))) (Rowd.frm (b5.rows.getD x6.toNat Ty.row.dflt)))))) else none) else((k3 x1 (i64.wrap (x6+1)) b0 b4 b5)) else none
def xFM(N:Nat):Nat→Int→Int→Cur→Val→Val→Option (Val×Cur)
 |0,_,_,_,_,_=>none
 |n+1,x1,x6,b0,b4,b5=>bif(decide (x6<(b5.rows.length:Int))) then((xGz N (fun z0 z1 z2 z3 z4=>(xFM N n z0 z1 z2 z3 z4)) N x1 x6 0 b0 b4 b5)) else((xHx N x1 b5).bind fun r1=>some (r1,b0))
def xJd(N:Nat)(a0:Cur)(a1:Int):Option (Val×Cur):=(xEZ N a0).bind fun r1=>(xFM N N a1 0 r1.2 (Val.mk 0 0 0 [] [] [] []) r1.1)
def xIu(a0:Cur):List Arg:=[.box (Cu .ro a0)]
def xF0(r:(List Org)×Cur):CallO:=⟨.v false [.sl .own .org r.1],[(Cu .ro r.2)],[]⟩
def xHI(N:Nat):Nat→(List Org)→Int→Int→Cur→Option ((List Org)×Cur)
 |0,_,_,_,_=>none
 |n+1,x3,x4,x5,b0=>bif(decide (x5<x4)) then((xB0 N b0 3).bind fun r1=>(xB0 N r1.2 4).bind fun r2=>if x3.length+ [(Org.mk r1.1 r2.1)].length≤Lim then(xHI N n (x3++ [(Org.mk r1.1 r2.1)]) x4 (i64.wrap (x5+1)) r2.2) else none) else(some (x3,b0))
def xJt(N:Nat)(a0:Cur):Option ((List Org)×Cur):=(xB0 N a0 6).bind fun r1=>(xHI N N [] r1.1 0 r1.2)
def xEo(a0:List Int):List Arg:=[.val (.v false [.sl .ro .byte a0])]
def xAd(r:Val×(List Org)):CallO:=⟨.tup [(true,(Va .own r.1)),(false,[.sl .own .org r.2])],[],[]⟩
def xEj(N:Nat)(a0:List Int):Option (Val×(List Org)):=(xIR N a0).bind fun r1=>(xFz N r1).bind fun r2=>(xDS N r2.2 2).bind fun r3=>bif r3.1 then((xJd N r3.2 1).bind fun r4=>(xJt N r4.2).bind fun r5=>some (r4.1,r5.1)) else((xJt N r3.2).bind fun r4=>some (r2.1,r4.1))
def xGX(a0:Rowd):List Arg:=[.val (.v true [.sl .ro .int a0.cells,.sl .ro .org a0.frm])]
def xEN(r:Rowd):CallO:=⟨.v true [.sl .own .int (Rowd.cells r),.sl .own .org (Rowd.frm r)],[],[]⟩
def xIM(N:Nat)(a0:Rowd):Option (Rowd):=if 0+a0.cells.length≤Lim then if 0+a0.frm.length≤Lim then some (Rowd.mk ([]++a0.cells) ([]++a0.frm)) else none else none
def xD8(a0:Val):List Arg:=[.val (.v true (Va .ro a0))]
def xCB(r:Val):CallO:=⟨.v true (Va .own r),[],[]⟩
def xE8(N:Nat)(q0:Val→Option (Val))(q1:(List Val)→Option ((List Val))):Nat→(List Rowd)→Int→Int→Val→Val→Option (Val)
 |0,_,_,_,_,_=>none
 |n+1,x18,x19,x20,b2,b3=>bif(decide (x20<x19)) then(if(0:Int)≤x20∧x20<x18.length then(xIM N (x18.getD x20.toNat Ty.row.dflt)).bind fun r1=>if b3.rows.length+ [r1].length≤Lim then(xE8 N q0 q1 n x18 x19 (i64.wrap (x20+1)) b2 (Val.mk b3.kind b3.n b3.step b3.text b3.list b3.columns (b3.rows++ [r1]))) else none else none) else(some b3)
def xGd(N:Nat)(q0:Val→Option (Val))(q1:(List Val)→Option ((List Val)))(a0:Val):Option (Val):=(q1 a0.list).bind fun r1=>if 0+a0.columns.length≤Lim then(xE8 N q0 q1 N a0.rows (a0.rows.length:Int) 0 (Val.mk 0 0 0 [] [] [] []) (Val.mk a0.kind a0.n a0.step a0.text r1 ([]++a0.columns) [])) else none
def xGB(a0:List Val):List Arg:=[.val (.v false [.sl .ro .val a0])]
def xEO(r:(List Val)):CallO:=⟨.v false [.sl .own .val r],[],[]⟩
def xFE(N:Nat)(q0:Val→Option (Val))(q1:(List Val)→Option ((List Val))):Nat→(List Val)→(List Val)→Int→Int→Option ((List Val))
 |0,_,_,_,_=>none
 |n+1,x3,x7,x8,x9=>bif(decide (x9<x8)) then(if(0:Int)≤x9∧x9<x7.length then(q0 (x7.getD x9.toNat Ty.val.dflt)).bind fun r1=>if x3.length+ [r1.re].length≤Lim then(xFE N q0 q1 n (x3++ [r1.re]) x7 x8 (i64.wrap (x9+1))) else none else none) else(some x3)
def xFO(N:Nat)(q0:Val→Option (Val))(q1:(List Val)→Option ((List Val)))(a0:List Val):Option ((List Val)):=(xFE N q0 q1 N [] a0 (a0.length:Int) 0)
structure impl_copyValue_rec where
 c_impl_copyValue:Val→Option (Val)
 c_impl_copyValues:(List Val)→Option ((List Val))
def xBI(N:Nat):Nat→impl_copyValue_rec
 |0=>⟨fun _=>none,fun _=>none⟩
 |d+1=>⟨xGd N (xBI N d).c_impl_copyValue (xBI N d).c_impl_copyValues,xFO N (xBI N d).c_impl_copyValue (xBI N d).c_impl_copyValues⟩
def xK2(N:Nat)(a0:Val):Option (Val):=(xBI N N).c_impl_copyValue a0
def xH7(a0:List Org)(a1:Org):List Arg:=[.val (.v false [.sl .ro .org a0]),.val (.v true [.int .i64 a1.cell,.int .i64 a1.row])]
def xE9(r:Bool):CallO:=⟨.v false [.bool r],[],[]⟩
def xED(N:Nat):Nat→(List Org)→Int→Int→Org→Option (Bool)
 |0,_,_,_,_=>none
 |n+1,x7,x8,x9,b3=>bif(decide (x9<x8)) then(if(0:Int)≤x9∧x9<x7.length then bif((((Org.cell (x7.getD x9.toNat Ty.org.dflt)):Int)==b3.cell)&&(((Org.row (x7.getD x9.toNat Ty.org.dflt)):Int)==b3.row)) then(some true) else((xED N n x7 x8 (i64.wrap (x9+1)) b3)) else none) else(some false)
def xJu(N:Nat)(a0:List Org)(a1:Org):Option (Bool):=(xED N N a0 (a0.length:Int) 0 a1)
def xDZ(a0:Val)(a1:List Org):List Arg:=[.val (.v true (Va .ro a0)),.val (.v false [.sl .ro .org a1])]
def xAa(r:Val):CallO:=⟨.v true (Va .own r),[],[]⟩
def xDq(N:Nat)(k6:(List Org)→(List Rowd)→Int→Int→Val→Val→Option (Val)):Nat→(List Org)→Bool→(List Rowd)→Int→Int→(List Org)→Int→Int→Val→Val→Rowd→Option (Val)
 |0,_,_,_,_,_,_,_,_,_,_,_=>none
 |n+1,x1,x8,x24,x25,x26,x31,x32,x33,b4,b5,b7=>bif(decide (x33<x32)) then(if(0:Int)≤x33∧x33<x31.length then bif x8 then((xJu N x1 (x31.getD x33.toNat Ty.org.dflt)).bind fun r1=>(xDq N k6 n x1 r1 x24 x25 x26 x31 x32 (i64.wrap (x33+1)) b4 b5 b7)) else((xDq N k6 n x1 false x24 x25 x26 x31 x32 (i64.wrap (x33+1)) b4 b5 b7)) else none) else(bif x8 then((xIM N b7).bind fun r1=>if b5.rows.length+ [r1].length≤Lim then(k6 x1 x24 x25 (i64.wrap (x26+1)) b4 (Val.mk b5.kind b5.n b5.step b5.text b5.list b5.columns (b5.rows++ [r1]))) else none) else((k6 x1 x24 x25 (i64.wrap (x26+1)) b4 b5)))
def xCU(N:Nat):Nat→(List Org)→(List Rowd)→Int→Int→Val→Val→Option (Val)
 |0,_,_,_,_,_,_=>none
 |n+1,x1,x24,x25,x26,b4,b5=>bif(decide (x26<x25)) then(if(0:Int)≤x26∧x26<x24.length then(xDq N (fun z0 z1 z2 z3 z4 z5=>(xCU N n z0 z1 z2 z3 z4 z5)) N x1 true x24 x25 x26 (Rowd.frm (x24.getD x26.toNat Ty.row.dflt)) (List.length (Rowd.frm (x24.getD x26.toNat Ty.row.dflt)):Int) 0 b4 b5 (x24.getD x26.toNat Ty.row.dflt)) else none) else(some b5)
def xBj(N:Nat)(a0:Val)(a1:List Org):Option (Val):=(xK2 N a0).bind fun r1=>bif(a0.kind != 5) then(some r1) else((xH5 N a0).bind fun r2=>bif(!r2) then(some r1) else((xCU N N a1 a0.rows (a0.rows.length:Int) 0 (Val.mk 0 0 0 [] [] [] []) (Val.mk r1.kind r1.n r1.step r1.text r1.list r1.columns []))))
def xC1(a0:Val)(a1:Val)(a2:Val):List Arg:=[.val (.v true (Va .ro a0)),.val (.v true (Va .ro a1)),.val (.v true (Va .ro a2))]
def xIC(r:Val×Bool):CallO:=⟨.v true [.int .i64 (Val.kind r.1),.int .i64 (Val.n r.1),.int .i64 (Val.step r.1),.str (Val.text r.1),.sl .ro .val (Val.list r.1),.sl .ro .str (Val.columns r.1),.sl .ro .row (Val.rows r.1)],[],[]⟩
def xAk(r:Val×Bool):CallO:=⟨.v true [.int .i64 (Val.kind r.1),.int .i64 (Val.n r.1),.int .i64 (Val.step r.1),.str (Val.text r.1),.sl .own .val (Val.list r.1),.sl .own .str (Val.columns r.1),.sl .own .row (Val.rows r.1)],[],[]⟩
def xAm(r:Val×Bool):CallO:=⟨.v true [.int .i64 (Val.kind r.1),.int .i64 (Val.n r.1),.int .i64 (Val.step r.1),.str (Val.text r.1),.sl .ro .val [],.sl .ro .str [],.sl .ro .row []],[],[]⟩
def xCA(r:Val×Bool):CallO:=bif r.2 then xIC r else xAk r
def xDy(N:Nat):Nat→Int→(List Rowd)→Int→Int→Val→Val→Val→Option (Val×Bool)
 |0,_,_,_,_,_,_,_=>none
 |n+1,x9,x37,x38,x39,b4,b6,b10=>bif(decide (x39<x38)) then(if(0:Int)≤x39∧x39<x37.length then if(0:Int)≤x9∧x9<(List.length (Rowd.cells (x37.getD x39.toNat Ty.row.dflt))) then bif(((List.getD (Rowd.cells (x37.getD x39.toNat Ty.row.dflt)) x9.toNat Ty.int.dflt):Int)==b4.n) then((xIM N (x37.getD x39.toNat Ty.row.dflt)).bind fun r1=>if b10.rows.length+ [r1].length≤Lim then(xDy N n x9 x37 x38 (i64.wrap (x39+1)) b4 b6 (Val.mk b10.kind b10.n b10.step b10.text b10.list b10.columns (b10.rows++ [r1]))) else none) else((xDy N n x9 x37 x38 (i64.wrap (x39+1)) b4 b6 b10)) else none else none) else(some (b10,false))
def xEM(N:Nat)(a0:Val)(a1:Val)(a2:Val):Option (Val×Bool):=(xHB N [2,1,5] [a0.re,a1.re,a2.re]).bind fun r1=>bif r1.2.2 then(if List.isEmpty r1.1.list=true then if List.isEmpty r1.1.columns=true then if List.isEmpty r1.1.rows=true then bif r1.2.1 then(some ((Val.mk r1.1.kind r1.1.n r1.1.step r1.1.text [] [] []),true)) else((xD5 N a2 a0.text).bind fun r2=>bif(decide (r2<0)) then((xBL N 7).bind fun r3=>some (r3,false)) else(if 0+a2.columns.length≤Lim then(xDy N N r2 a2.rows (a2.rows.length:Int) 0 a1 (Val.mk 0 0 0 [] [] [] []) (Val.mk 5 0 0 [] [] ([]++a2.columns) [])) else none)) else none else none else none) else(bif r1.2.1 then(some (r1.1,false)) else((xD5 N a2 a0.text).bind fun r2=>bif(decide (r2<0)) then((xBL N 7).bind fun r3=>some (r3,false)) else(if 0+a2.columns.length≤Lim then(xDy N N r2 a2.rows (a2.rows.length:Int) 0 a1 (Val.mk 0 0 0 [] [] [] []) (Val.mk 5 0 0 [] [] ([]++a2.columns) [])) else none)))
def xJc(a0:List Org)(a1:Org):List Arg:=[.val (.v false [.sl .ro .org a0]),.val (.v true [.int .i64 a1.cell,.int .i64 a1.row])]
def xFV(r:Bool):CallO:=⟨.v false [.bool r],[],[]⟩
def xGM(N:Nat):Nat→(List Org)→Int→Org→Option (Bool)
 |0,_,_,_=>none
 |n+1,x0,x5,b3=>bif(decide (x5<(x0.length:Int))) then(if(0:Int)≤x5∧x5<x0.length then bif((((Org.cell (x0.getD x5.toNat Ty.org.dflt)):Int)==b3.cell)&&(((Org.row (x0.getD x5.toNat Ty.org.dflt)):Int)==b3.row)) then(some true) else((xGM N n x0 (i64.wrap (x5+1)) b3)) else none) else(some false)
def xMu(N:Nat)(a0:List Org)(a1:Org):Option (Bool):=(xGM N N a0 0 a1)
def xG6(a0:List Org)(a1:List Org):List Arg:=[.val (.v false [.sl .ro .org a0]),.val (.v false [.sl .ro .org a1])]
def xEe(r:Bool):CallO:=⟨.v false [.bool r],[],[]⟩
def xEH(N:Nat):Nat→(List Org)→(List Org)→Int→Option (Bool)
 |0,_,_,_=>none
 |n+1,x0,x1,x5=>bif(decide (x5<(x0.length:Int))) then(if(0:Int)≤x5∧x5<x0.length then(xMu N x1 (x0.getD x5.toNat Ty.org.dflt)).bind fun r1=>bif(!r1) then(some false) else((xEH N n x0 x1 (i64.wrap (x5+1)))) else none) else(some true)
def xJG(N:Nat)(a0:List Org)(a1:List Org):Option (Bool):=(xEH N N a0 a1 0)
def xD3(a0:Val)(a1:List Org):List Arg:=[.val (.v true (Va .ro a0)),.val (.v false [.sl .ro .org a1])]
def xAl(r:Val):CallO:=⟨.v true (Va .own r),[],[]⟩
def xDj(N:Nat):Nat→(List Org)→Int→Val→Val→Val→Option (Val)
 |0,_,_,_,_,_=>none
 |n+1,x1,x6,b2,b4,b5=>bif(decide (x6<(b2.rows.length:Int))) then(if(0:Int)≤x6∧x6<b2.rows.length then(xJG N (Rowd.frm (b2.rows.getD x6.toNat Ty.row.dflt)) x1).bind fun r1=>bif r1 then((xJ9 N (b2.rows.getD x6.toNat Ty.row.dflt)).bind fun r2=>if b5.rows.length+ [r2].length≤Lim then(xDj N n x1 (i64.wrap (x6+1)) b2 b4 (Val.mk b5.kind b5.n b5.step b5.text b5.list b5.columns (b5.rows++ [r2]))) else none) else((xDj N n x1 (i64.wrap (x6+1)) b2 b4 b5)) else none) else(some b5)
def xAP(N:Nat)(a0:Val)(a1:List Org):Option (Val):=bif(a0.kind != 5) then((xIF N a0).bind fun r1=>some r1) else((xFd N a0).bind fun r1=>bif(!r1) then((xIF N a0).bind fun r2=>some r2) else(if 0+a0.columns.length≤Lim then(xDj N N a1 0 a0 (Val.mk 0 0 0 [] [] [] []) (Val.mk 5 0 0 [] [] ([]++a0.columns) [])) else none))
def xAp(a0:List Int):List Arg:=[.val (.v false [.sl .ro .byte a0])]
def xAq(r:Bool):CallO:=⟨.v false [.bool r],[],[]⟩
def xHY(N:Nat)(a0:List Int):Option (Bool):=(xMr N a0).bind fun r1=>bif r1 then(some true) else((xFc N a0).bind fun r2=>(xEj N a0).bind fun r3=>(xBj N r2.2.2 r3.2).bind fun r4=>(xEM N r2.1 r2.2.1 r4).bind fun r5=>bif r5.2 then(if List.isEmpty r5.1.list=true then if List.isEmpty r5.1.columns=true then if List.isEmpty r5.1.rows=true then(xEM N r2.1 r2.2.1 r2.2.2).bind fun r6=>bif r6.2 then(if List.isEmpty r6.1.list=true then if List.isEmpty r6.1.columns=true then if List.isEmpty r6.1.rows=true then bif(r5.1.kind==5) then((xAP N (Val.mk r6.1.kind r6.1.n r6.1.step r6.1.text [] [] []) r3.2).bind fun r7=>(xAv N (Val.mk r5.1.kind r5.1.n r5.1.step r5.1.text [] [] []) r7).bind fun r8=>bif(!r8) then(some false) else((xDt N a0).bind fun r9=>(xBj N r9.2.1 r3.2).bind fun r10=>(xBj N r9.2.2 r3.2).bind fun r11=>(xB4 N r9.1 r10 r11).bind fun r12=>bif r12.2 then(if List.isEmpty r12.1.list=true then if List.isEmpty r12.1.columns=true then if List.isEmpty r12.1.rows=true then(xB4 N r9.1 r9.2.1 r9.2.2).bind fun r13=>bif r13.2 then(if List.isEmpty r13.1.list=true then if List.isEmpty r13.1.columns=true then if List.isEmpty r13.1.rows=true then bif(r12.1.kind != 5) then((xAU N r9.1 r9.2.1 r9.2.2).bind fun r14=>(xAv N (Val.mk r13.1.kind r13.1.n r13.1.step r13.1.text [] [] []) r14).bind fun r15=>some r15) else(bif(r13.1.kind != 5) then((xAU N r9.1 r9.2.1 r9.2.2).bind fun r14=>(xAv N (Val.mk r13.1.kind r13.1.n r13.1.step r13.1.text [] [] []) r14).bind fun r15=>
       some r15) else((xAP N (Val.mk r13.1.kind r13.1.n r13.1.step r13.1.text [] [] []) r3.2).bind fun r14=>(xAv N (Val.mk r12.1.kind r12.1.n r12.1.step r12.1.text [] [] []) r14).bind fun r15=>some r15)) else none else none else none) else(bif(r12.1.kind != 5) then((xAU N r9.1 r9.2.1 r9.2.2).bind fun r14=>(xAv N r13.1 r14).bind fun r15=>some r15) else(bif(r13.1.kind != 5) then((xAU N r9.1 r9.2.1 r9.2.2).bind fun r14=>(xAv N r13.1 r14).bind fun r15=>some r15) else((xAP N r13.1 r3.2).bind fun r14=>(xAv N (Val.mk r12.1.kind r12.1.n r12.1.step r12.1.text [] [] []) r14).bind fun r15=>some r15))) else none else none else none) else((xB4 N r9.1 r9.2.1 r9.2.2).bind fun r13=>bif r13.2 then(if List.isEmpty r13.1.list=true then if List.isEmpty r13.1.columns=true then if List.isEmpty r13.1.rows=true then bif(r12.1.kind != 5) then((xAU N r9.1 r9.2.1 r9.2.2).bind fun r14=>(xAv N (Val.mk r13.1.kind r13.1.n r13.1.step r13.1.text [] [] []) r14).bind fun r15=>some r15) else(bif(r13.1.kind != 5) then((xAU N r9.1 r9.2.1 r9.2.2).bind fun r14=>(xAv N (Val.mk r13.1.kind r13.1.n r13.1.step r13.1.text [] [] []) r14).bind fun r15=>some r15) else((xAP N (Val.mk r13.1.kind r13.1.n r13.1.step r13.1.text [] [] []) r3.2).bind fun r14=>(xAv N r12.1 r14).bind fun r15=>some r15)) else none else none else none) else(bif(r12.1.kind != 5) then((xAU N r9.1 r9.2.1 r9.2.2).bind fun r14=>(xAv N r13.1 r14).bind fun r15=>
     some r15) else(bif(r13.1.kind != 5) then((xAU N r9.1 r9.2.1 r9.2.2).bind fun r14=>(xAv N r13.1 r14).bind fun r15=>some r15) else((xAP N r13.1 r3.2).bind fun r14=>(xAv N r12.1 r14).bind fun r15=>some r15)))))) else((xDt N a0).bind fun r7=>(xBj N r7.2.1 r3.2).bind fun r8=>(xBj N r7.2.2 r3.2).bind fun r9=>(xB4 N r7.1 r8 r9).bind fun r10=>bif r10.2 then(if List.isEmpty r10.1.list=true then if List.isEmpty r10.1.columns=true then if List.isEmpty r10.1.rows=true then(xB4 N r7.1 r7.2.1 r7.2.2).bind fun r11=>bif r11.2 then(if List.isEmpty r11.1.list=true then if List.isEmpty r11.1.columns=true then if List.isEmpty r11.1.rows=true then bif(r10.1.kind != 5) then((xAU N r7.1 r7.2.1 r7.2.2).bind fun r12=>(xAv N (Val.mk r11.1.kind r11.1.n r11.1.step r11.1.text [] [] []) r12).bind fun r13=>some r13) else(bif(r11.1.kind != 5) then((xAU N r7.1 r7.2.1 r7.2.2).bind fun r12=>(xAv N (Val.mk r11.1.kind r11.1.n r11.1.step r11.1.text [] [] []) r12).bind fun r13=>some r13) else((xAP N (Val.mk r11.1.kind r11.1.n r11.1.step r11.1.text [] [] []) r3.2).bind fun r12=>(xAv N (Val.mk r10.1.kind r10.1.n r10.1.step r10.1.text [] [] []) r12).bind fun r13=>some r13)) else none else none else none) else(bif(r10.1.kind != 5) then((xAU N r7.1 r7.2.1 r7.2.2).bind fun r12=>(xAv N r11.1 r12).bind fun r13=>some r13) else(bif(r11.1.kind != 5) then((xAU N r7.1 r7.2.1 r7.2.2).bind fun r12=>(xAv N r11.1 r12).bind fun r13=>
     some r13) else((xAP N r11.1 r3.2).bind fun r12=>(xAv N (Val.mk r10.1.kind r10.1.n r10.1.step r10.1.text [] [] []) r12).bind fun r13=>some r13))) else none else none else none) else((xB4 N r7.1 r7.2.1 r7.2.2).bind fun r11=>bif r11.2 then(if List.isEmpty r11.1.list=true then if List.isEmpty r11.1.columns=true then if List.isEmpty r11.1.rows=true then bif(r10.1.kind != 5) then((xAU N r7.1 r7.2.1 r7.2.2).bind fun r12=>(xAv N (Val.mk r11.1.kind r11.1.n r11.1.step r11.1.text [] [] []) r12).bind fun r13=>some r13) else(bif(r11.1.kind != 5) then((xAU N r7.1 r7.2.1 r7.2.2).bind fun r12=>(xAv N (Val.mk r11.1.kind r11.1.n r11.1.step r11.1.text [] [] []) r12).bind fun r13=>some r13) else((xAP N (Val.mk r11.1.kind r11.1.n r11.1.step r11.1.text [] [] []) r3.2).bind fun r12=>(xAv N r10.1 r12).bind fun r13=>some r13)) else none else none else none) else(bif(r10.1.kind != 5) then((xAU N r7.1 r7.2.1 r7.2.2).bind fun r12=>(xAv N r11.1 r12).bind fun r13=>some r13) else(bif(r11.1.kind != 5) then((xAU N r7.1 r7.2.1 r7.2.2).bind fun r12=>(xAv N r11.1 r12).bind fun r13=>some r13) else((xAP N r11.1 r3.2).bind fun r12=>(xAv N r10.1 r12).bind fun r13=>some r13))))) else none else none else none) else(bif(r5.1.kind==5) then((xAP N r6.1 r3.2).bind fun r7=>(xAv N (Val.mk r5.1.kind r5.1.n r5.1.step r5.1.text [] [] []) r7).bind fun r8=>bif(!r8) then(some false) else((xDt N a0).bind fun r9=>
     (xBj N r9.2.1 r3.2).bind fun r10=>(xBj N r9.2.2 r3.2).bind fun r11=>(xB4 N r9.1 r10 r11).bind fun r12=>bif r12.2 then(if List.isEmpty r12.1.list=true then if List.isEmpty r12.1.columns=true then if List.isEmpty r12.1.rows=true then(xB4 N r9.1 r9.2.1 r9.2.2).bind fun r13=>bif r13.2 then(if List.isEmpty r13.1.list=true then if List.isEmpty r13.1.columns=true then if List.isEmpty r13.1.rows=true then bif(r12.1.kind != 5) then((xAU N r9.1 r9.2.1 r9.2.2).bind fun r14=>(xAv N (Val.mk r13.1.kind r13.1.n r13.1.step r13.1.text [] [] []) r14).bind fun r15=>some r15) else(bif(r13.1.kind != 5) then((xAU N r9.1 r9.2.1 r9.2.2).bind fun r14=>(xAv N (Val.mk r13.1.kind r13.1.n r13.1.step r13.1.text [] [] []) r14).bind fun r15=>some r15) else((xAP N (Val.mk r13.1.kind r13.1.n r13.1.step r13.1.text [] [] []) r3.2).bind fun r14=>(xAv N (Val.mk r12.1.kind r12.1.n r12.1.step r12.1.text [] [] []) r14).bind fun r15=>some r15)) else none else none else none) else(bif(r12.1.kind != 5) then((xAU N r9.1 r9.2.1 r9.2.2).bind fun r14=>(xAv N r13.1 r14).bind fun r15=>some r15) else(bif(r13.1.kind != 5) then((xAU N r9.1 r9.2.1 r9.2.2).bind fun r14=>(xAv N r13.1 r14).bind fun r15=>some r15) else((xAP N r13.1 r3.2).bind fun r14=>(xAv N (Val.mk r12.1.kind r12.1.n r12.1.step r12.1.text [] [] []) r14).bind fun r15=>some r15))) else none else none else none) else((xB4 N r9.1 r9.2.1 r9.2.2).bind fun r13=>bif r13.2 then(if List.isEmpty r13.1.list=true then
       if List.isEmpty r13.1.columns=true then if List.isEmpty r13.1.rows=true then bif(r12.1.kind != 5) then((xAU N r9.1 r9.2.1 r9.2.2).bind fun r14=>(xAv N (Val.mk r13.1.kind r13.1.n r13.1.step r13.1.text [] [] []) r14).bind fun r15=>some r15) else(bif(r13.1.kind != 5) then((xAU N r9.1 r9.2.1 r9.2.2).bind fun r14=>(xAv N (Val.mk r13.1.kind r13.1.n r13.1.step r13.1.text [] [] []) r14).bind fun r15=>some r15) else((xAP N (Val.mk r13.1.kind r13.1.n r13.1.step r13.1.text [] [] []) r3.2).bind fun r14=>(xAv N r12.1 r14).bind fun r15=>some r15)) else none else none else none) else(bif(r12.1.kind != 5) then((xAU N r9.1 r9.2.1 r9.2.2).bind fun r14=>(xAv N r13.1 r14).bind fun r15=>some r15) else(bif(r13.1.kind != 5) then((xAU N r9.1 r9.2.1 r9.2.2).bind fun r14=>(xAv N r13.1 r14).bind fun r15=>some r15) else((xAP N r13.1 r3.2).bind fun r14=>(xAv N r12.1 r14).bind fun r15=>some r15)))))) else((xDt N a0).bind fun r7=>(xBj N r7.2.1 r3.2).bind fun r8=>(xBj N r7.2.2 r3.2).bind fun r9=>(xB4 N r7.1 r8 r9).bind fun r10=>bif r10.2 then(if List.isEmpty r10.1.list=true then if List.isEmpty r10.1.columns=true then if List.isEmpty r10.1.rows=true then(xB4 N r7.1 r7.2.1 r7.2.2).bind fun r11=>bif r11.2 then(if List.isEmpty r11.1.list=true then if List.isEmpty r11.1.columns=true then if List.isEmpty r11.1.rows=true then bif(r10.1.kind != 5) then((xAU N r7.1 r7.2.1 r7.2.2).bind fun r12=>(xAv N (Val.mk r11.1.kind r11.1.n r11.1.step r11.1.text [] [] []) r12).bind fun r13=>
       some r13) else(bif(r11.1.kind != 5) then((xAU N r7.1 r7.2.1 r7.2.2).bind fun r12=>(xAv N (Val.mk r11.1.kind r11.1.n r11.1.step r11.1.text [] [] []) r12).bind fun r13=>some r13) else((xAP N (Val.mk r11.1.kind r11.1.n r11.1.step r11.1.text [] [] []) r3.2).bind fun r12=>(xAv N (Val.mk r10.1.kind r10.1.n r10.1.step r10.1.text [] [] []) r12).bind fun r13=>some r13)) else none else none else none) else(bif(r10.1.kind != 5) then((xAU N r7.1 r7.2.1 r7.2.2).bind fun r12=>(xAv N r11.1 r12).bind fun r13=>some r13) else(bif(r11.1.kind != 5) then((xAU N r7.1 r7.2.1 r7.2.2).bind fun r12=>(xAv N r11.1 r12).bind fun r13=>some r13) else((xAP N r11.1 r3.2).bind fun r12=>(xAv N (Val.mk r10.1.kind r10.1.n r10.1.step r10.1.text [] [] []) r12).bind fun r13=>some r13))) else none else none else none) else((xB4 N r7.1 r7.2.1 r7.2.2).bind fun r11=>bif r11.2 then(if List.isEmpty r11.1.list=true then if List.isEmpty r11.1.columns=true then if List.isEmpty r11.1.rows=true then bif(r10.1.kind != 5) then((xAU N r7.1 r7.2.1 r7.2.2).bind fun r12=>(xAv N (Val.mk r11.1.kind r11.1.n r11.1.step r11.1.text [] [] []) r12).bind fun r13=>some r13) else(bif(r11.1.kind != 5) then((xAU N r7.1 r7.2.1 r7.2.2).bind fun r12=>(xAv N (Val.mk r11.1.kind r11.1.n r11.1.step r11.1.text [] [] []) r12).bind fun r13=>some r13) else((xAP N (Val.mk r11.1.kind r11.1.n r11.1.step r11.1.text [] [] []) r3.2).bind fun r12=>(xAv N r10.1 r12).bind fun r13=>
        some r13)) else none else none else none) else(bif(r10.1.kind != 5) then((xAU N r7.1 r7.2.1 r7.2.2).bind fun r12=>(xAv N r11.1 r12).bind fun r13=>some r13) else(bif(r11.1.kind != 5) then((xAU N r7.1 r7.2.1 r7.2.2).bind fun r12=>(xAv N r11.1 r12).bind fun r13=>some r13) else((xAP N r11.1 r3.2).bind fun r12=>(xAv N r10.1 r12).bind fun r13=>some r13)))))) else none else none else none) else((xEM N r2.1 r2.2.1 r2.2.2).bind fun r6=>bif r6.2 then(if List.isEmpty r6.1.list=true then if List.isEmpty r6.1.columns=true then if List.isEmpty r6.1.rows=true then bif(r5.1.kind==5) then((xAP N (Val.mk r6.1.kind r6.1.n r6.1.step r6.1.text [] [] []) r3.2).bind fun r7=>(xAv N r5.1 r7).bind fun r8=>bif(!r8) then(some false) else((xDt N a0).bind fun r9=>(xBj N r9.2.1 r3.2).bind fun r10=>(xBj N r9.2.2 r3.2).bind fun r11=>(xB4 N r9.1 r10 r11).bind fun r12=>bif r12.2 then(if List.isEmpty r12.1.list=true then if List.isEmpty r12.1.columns=true then if List.isEmpty r12.1.rows=true then(xB4 N r9.1 r9.2.1 r9.2.2).bind fun r13=>bif r13.2 then(if List.isEmpty r13.1.list=true then if List.isEmpty r13.1.columns=true then if List.isEmpty r13.1.rows=true then bif(r12.1.kind != 5) then((xAU N r9.1 r9.2.1 r9.2.2).bind fun r14=>(xAv N (Val.mk r13.1.kind r13.1.n r13.1.step r13.1.text [] [] []) r14).bind fun r15=>some r15) else(bif(r13.1.kind != 5) then((xAU N r9.1 r9.2.1 r9.2.2).bind fun r14=>(xAv N (Val.mk r13.1.kind r13.1.n r13.1.step r13.1.text [] [] []) r14).bind fun r15=>
         some r15) else((xAP N (Val.mk r13.1.kind r13.1.n r13.1.step r13.1.text [] [] []) r3.2).bind fun r14=>(xAv N (Val.mk r12.1.kind r12.1.n r12.1.step r12.1.text [] [] []) r14).bind fun r15=>some r15)) else none else none else none) else(bif(r12.1.kind != 5) then((xAU N r9.1 r9.2.1 r9.2.2).bind fun r14=>(xAv N r13.1 r14).bind fun r15=>some r15) else(bif(r13.1.kind != 5) then((xAU N r9.1 r9.2.1 r9.2.2).bind fun r14=>(xAv N r13.1 r14).bind fun r15=>some r15) else((xAP N r13.1 r3.2).bind fun r14=>(xAv N (Val.mk r12.1.kind r12.1.n r12.1.step r12.1.text [] [] []) r14).bind fun r15=>some r15))) else none else none else none) else((xB4 N r9.1 r9.2.1 r9.2.2).bind fun r13=>bif r13.2 then(if List.isEmpty r13.1.list=true then if List.isEmpty r13.1.columns=true then if List.isEmpty r13.1.rows=true then bif(r12.1.kind != 5) then((xAU N r9.1 r9.2.1 r9.2.2).bind fun r14=>(xAv N (Val.mk r13.1.kind r13.1.n r13.1.step r13.1.text [] [] []) r14).bind fun r15=>some r15) else(bif(r13.1.kind != 5) then((xAU N r9.1 r9.2.1 r9.2.2).bind fun r14=>(xAv N (Val.mk r13.1.kind r13.1.n r13.1.step r13.1.text [] [] []) r14).bind fun r15=>some r15) else((xAP N (Val.mk r13.1.kind r13.1.n r13.1.step r13.1.text [] [] []) r3.2).bind fun r14=>(xAv N r12.1 r14).bind fun r15=>some r15)) else none else none else none) else(bif(r12.1.kind != 5) then((xAU N r9.1 r9.2.1 r9.2.2).bind fun r14=>(xAv N r13.1 r14).bind fun r15=>
        some r15) else(bif(r13.1.kind != 5) then((xAU N r9.1 r9.2.1 r9.2.2).bind fun r14=>(xAv N r13.1 r14).bind fun r15=>some r15) else((xAP N r13.1 r3.2).bind fun r14=>(xAv N r12.1 r14).bind fun r15=>some r15)))))) else((xDt N a0).bind fun r7=>(xBj N r7.2.1 r3.2).bind fun r8=>(xBj N r7.2.2 r3.2).bind fun r9=>(xB4 N r7.1 r8 r9).bind fun r10=>bif r10.2 then(if List.isEmpty r10.1.list=true then if List.isEmpty r10.1.columns=true then if List.isEmpty r10.1.rows=true then(xB4 N r7.1 r7.2.1 r7.2.2).bind fun r11=>bif r11.2 then(if List.isEmpty r11.1.list=true then if List.isEmpty r11.1.columns=true then if List.isEmpty r11.1.rows=true then bif(r10.1.kind != 5) then((xAU N r7.1 r7.2.1 r7.2.2).bind fun r12=>(xAv N (Val.mk r11.1.kind r11.1.n r11.1.step r11.1.text [] [] []) r12).bind fun r13=>some r13) else(bif(r11.1.kind != 5) then((xAU N r7.1 r7.2.1 r7.2.2).bind fun r12=>(xAv N (Val.mk r11.1.kind r11.1.n r11.1.step r11.1.text [] [] []) r12).bind fun r13=>some r13) else((xAP N (Val.mk r11.1.kind r11.1.n r11.1.step r11.1.text [] [] []) r3.2).bind fun r12=>(xAv N (Val.mk r10.1.kind r10.1.n r10.1.step r10.1.text [] [] []) r12).bind fun r13=>some r13)) else none else none else none) else(bif(r10.1.kind != 5) then((xAU N r7.1 r7.2.1 r7.2.2).bind fun r12=>(xAv N r11.1 r12).bind fun r13=>some r13) else(bif(r11.1.kind != 5) then((xAU N r7.1 r7.2.1 r7.2.2).bind fun r12=>(xAv N r11.1 r12).bind fun r13=>
        some r13) else((xAP N r11.1 r3.2).bind fun r12=>(xAv N (Val.mk r10.1.kind r10.1.n r10.1.step r10.1.text [] [] []) r12).bind fun r13=>some r13))) else none else none else none) else((xB4 N r7.1 r7.2.1 r7.2.2).bind fun r11=>bif r11.2 then(if List.isEmpty r11.1.list=true then if List.isEmpty r11.1.columns=true then if List.isEmpty r11.1.rows=true then bif(r10.1.kind != 5) then((xAU N r7.1 r7.2.1 r7.2.2).bind fun r12=>(xAv N (Val.mk r11.1.kind r11.1.n r11.1.step r11.1.text [] [] []) r12).bind fun r13=>some r13) else(bif(r11.1.kind != 5) then((xAU N r7.1 r7.2.1 r7.2.2).bind fun r12=>(xAv N (Val.mk r11.1.kind r11.1.n r11.1.step r11.1.text [] [] []) r12).bind fun r13=>some r13) else((xAP N (Val.mk r11.1.kind r11.1.n r11.1.step r11.1.text [] [] []) r3.2).bind fun r12=>(xAv N r10.1 r12).bind fun r13=>some r13)) else none else none else none) else(bif(r10.1.kind != 5) then((xAU N r7.1 r7.2.1 r7.2.2).bind fun r12=>(xAv N r11.1 r12).bind fun r13=>some r13) else(bif(r11.1.kind != 5) then((xAU N r7.1 r7.2.1 r7.2.2).bind fun r12=>(xAv N r11.1 r12).bind fun r13=>some r13) else((xAP N r11.1 r3.2).bind fun r12=>(xAv N r10.1 r12).bind fun r13=>some r13))))) else none else none else none) else(bif(r5.1.kind==5) then((xAP N r6.1 r3.2).bind fun r7=>(xAv N r5.1 r7).bind fun r8=>bif(!r8) then(some false) else((xDt N a0).bind fun r9=>(xBj N r9.2.1 r3.2).bind fun r10=>(xBj N r9.2.2 r3.2).bind fun r11=>
     (xB4 N r9.1 r10 r11).bind fun r12=>bif r12.2 then(if List.isEmpty r12.1.list=true then if List.isEmpty r12.1.columns=true then if List.isEmpty r12.1.rows=true then(xB4 N r9.1 r9.2.1 r9.2.2).bind fun r13=>bif r13.2 then(if List.isEmpty r13.1.list=true then if List.isEmpty r13.1.columns=true then if List.isEmpty r13.1.rows=true then bif(r12.1.kind != 5) then((xAU N r9.1 r9.2.1 r9.2.2).bind fun r14=>(xAv N (Val.mk r13.1.kind r13.1.n r13.1.step r13.1.text [] [] []) r14).bind fun r15=>some r15) else(bif(r13.1.kind != 5) then((xAU N r9.1 r9.2.1 r9.2.2).bind fun r14=>(xAv N (Val.mk r13.1.kind r13.1.n r13.1.step r13.1.text [] [] []) r14).bind fun r15=>some r15) else((xAP N (Val.mk r13.1.kind r13.1.n r13.1.step r13.1.text [] [] []) r3.2).bind fun r14=>(xAv N (Val.mk r12.1.kind r12.1.n r12.1.step r12.1.text [] [] []) r14).bind fun r15=>some r15)) else none else none else none) else(bif(r12.1.kind != 5) then((xAU N r9.1 r9.2.1 r9.2.2).bind fun r14=>(xAv N r13.1 r14).bind fun r15=>some r15) else(bif(r13.1.kind != 5) then((xAU N r9.1 r9.2.1 r9.2.2).bind fun r14=>(xAv N r13.1 r14).bind fun r15=>some r15) else((xAP N r13.1 r3.2).bind fun r14=>(xAv N (Val.mk r12.1.kind r12.1.n r12.1.step r12.1.text [] [] []) r14).bind fun r15=>some r15))) else none else none else none) else((xB4 N r9.1 r9.2.1 r9.2.2).bind fun r13=>bif r13.2 then(if List.isEmpty r13.1.list=true then if List.isEmpty r13.1.columns=true then if List.isEmpty r13.1.rows=true then
       bif(r12.1.kind != 5) then((xAU N r9.1 r9.2.1 r9.2.2).bind fun r14=>(xAv N (Val.mk r13.1.kind r13.1.n r13.1.step r13.1.text [] [] []) r14).bind fun r15=>some r15) else(bif(r13.1.kind != 5) then((xAU N r9.1 r9.2.1 r9.2.2).bind fun r14=>(xAv N (Val.mk r13.1.kind r13.1.n r13.1.step r13.1.text [] [] []) r14).bind fun r15=>some r15) else((xAP N (Val.mk r13.1.kind r13.1.n r13.1.step r13.1.text [] [] []) r3.2).bind fun r14=>(xAv N r12.1 r14).bind fun r15=>some r15)) else none else none else none) else(bif(r12.1.kind != 5) then((xAU N r9.1 r9.2.1 r9.2.2).bind fun r14=>(xAv N r13.1 r14).bind fun r15=>some r15) else(bif(r13.1.kind != 5) then((xAU N r9.1 r9.2.1 r9.2.2).bind fun r14=>(xAv N r13.1 r14).bind fun r15=>some r15) else((xAP N r13.1 r3.2).bind fun r14=>(xAv N r12.1 r14).bind fun r15=>some r15)))))) else((xDt N a0).bind fun r7=>(xBj N r7.2.1 r3.2).bind fun r8=>(xBj N r7.2.2 r3.2).bind fun r9=>(xB4 N r7.1 r8 r9).bind fun r10=>bif r10.2 then(if List.isEmpty r10.1.list=true then if List.isEmpty r10.1.columns=true then if List.isEmpty r10.1.rows=true then(xB4 N r7.1 r7.2.1 r7.2.2).bind fun r11=>bif r11.2 then(if List.isEmpty r11.1.list=true then if List.isEmpty r11.1.columns=true then if List.isEmpty r11.1.rows=true then bif(r10.1.kind != 5) then((xAU N r7.1 r7.2.1 r7.2.2).bind fun r12=>(xAv N (Val.mk r11.1.kind r11.1.n r11.1.step r11.1.text [] [] []) r12).bind fun r13=>
       some r13) else(bif(r11.1.kind != 5) then((xAU N r7.1 r7.2.1 r7.2.2).bind fun r12=>(xAv N (Val.mk r11.1.kind r11.1.n r11.1.step r11.1.text [] [] []) r12).bind fun r13=>some r13) else((xAP N (Val.mk r11.1.kind r11.1.n r11.1.step r11.1.text [] [] []) r3.2).bind fun r12=>(xAv N (Val.mk r10.1.kind r10.1.n r10.1.step r10.1.text [] [] []) r12).bind fun r13=>some r13)) else none else none else none) else(bif(r10.1.kind != 5) then((xAU N r7.1 r7.2.1 r7.2.2).bind fun r12=>(xAv N r11.1 r12).bind fun r13=>some r13) else(bif(r11.1.kind != 5) then((xAU N r7.1 r7.2.1 r7.2.2).bind fun r12=>(xAv N r11.1 r12).bind fun r13=>some r13) else((xAP N r11.1 r3.2).bind fun r12=>(xAv N (Val.mk r10.1.kind r10.1.n r10.1.step r10.1.text [] [] []) r12).bind fun r13=>some r13))) else none else none else none) else((xB4 N r7.1 r7.2.1 r7.2.2).bind fun r11=>bif r11.2 then(if List.isEmpty r11.1.list=true then if List.isEmpty r11.1.columns=true then if List.isEmpty r11.1.rows=true then bif(r10.1.kind != 5) then((xAU N r7.1 r7.2.1 r7.2.2).bind fun r12=>(xAv N (Val.mk r11.1.kind r11.1.n r11.1.step r11.1.text [] [] []) r12).bind fun r13=>some r13) else(bif(r11.1.kind != 5) then((xAU N r7.1 r7.2.1 r7.2.2).bind fun r12=>(xAv N (Val.mk r11.1.kind r11.1.n r11.1.step r11.1.text [] [] []) r12).bind fun r13=>some r13) else((xAP N (Val.mk r11.1.kind r11.1.n r11.1.step r11.1.text [] [] []) r3.2).bind fun r12=>(xAv N r10.1 r12).bind fun r13=>
        some r13)) else none else none else none) else(bif(r10.1.kind != 5) then((xAU N r7.1 r7.2.1 r7.2.2).bind fun r12=>(xAv N r11.1 r12).bind fun r13=>some r13) else(bif(r11.1.kind != 5) then((xAU N r7.1 r7.2.1 r7.2.2).bind fun r12=>(xAv N r11.1 r12).bind fun r13=>some r13) else((xAP N r11.1 r3.2).bind fun r12=>(xAv N r10.1 r12).bind fun r13=>some r13))))))))
end Go.Ab
end
section
namespace Go.Ab
open Go.Proofs Go.Shelf
variable {P:Program} {ρ:Ren}
theorem xQQ(L:Lays.n125 P ρ):∀args w,(callFunc (ρ.f 125) args).run P w= .ok (.enter (ρ.f 125) args) w:=enters_of L.f125 (by kernel_rfl) rfl
end Go.Ab
end
section
namespace Go.Ab
open Go.Lib Go.Extern Go.Proofs Go.Shelf
variable [Inhabited Lb]
def OrgRow(w:World)(br cap:Nat)(xs:List Org):Prop:=
 xs.length≤cap∧∃cs ty lo hi,w.heap[br]? =some (.cells cs ty (lo,hi))∧cap*2=cs.size∧(∀o,lo≤o→o<hi→cap*2≤o)∧
  ∀m (hm:m<xs.length) k (hk:k<2),cs[m*2+k]? =some ((zAu xs[m])[k]'hk)
theorem OrgRow.rd{E:Env}{br cap:Nat}{xs:List Org}(h:OrgRow E.w br cap xs){pl:Pl}{c:Nat}(ho:E.ow br=some (.arr pl c []))(hw:E.hw br=xs.length*2)(n:Nat)(hh:E.hdr n= .slice (some ⟨br,0,none⟩) xs.length cap):
 RdP E.w (okF E pl c (.lnt n)) (qF E pl c (.lnt n)) (.slice (some ⟨br,0,none⟩) xs.length cap) (.sl 2 (xs.map Ty.org.toD)):=by
 obtain⟨hcap,cs,ty,lo,hi,t4,t5,t6,hc⟩:=h
 refine .sl br 0 xs.length cap 2 _ (fun m k=>if h:m<xs.length∧k<2 then(zAu xs[m])[k]'h.2 else .bool false) (by simp) hcap (fun r hr=> ?_) ⟨⟨ho,hw,hcap,cs,ty,lo,hi,t4,t5,t6⟩,fun _=>hh.symm⟩ (fun m k hm hk=> ?_) (fun m k hm hk=> ?_)
 ·obtain⟨y,_,rfl⟩:=List.mem_map.1 hr
  exact Ty.toD_length .org y
 ·rw [dif_pos ⟨hm,hk⟩]
  refine⟨?_,?_,ho⟩
  ·simp only [World.cell?,t4]
   rw [Nat.zero_add]
   exact hc m hm k hk
  ·rw [hw];omega
 ·have hm' :m<xs.length:=by simpa using hm
  have hr:(xs.map Ty.org.toD)[m]=Ty.org.toD xs[m]:=by rw [List.getElem_map]
  have hk' :k<2:=by rw [hr] at hk;exact hk
  rw [dif_pos ⟨hm',hk'⟩]
  simp only [hr]
  match k,hk' with
  |0,_=>exact .int .i64 _
  |1,_=>exact .int .i64 _
theorem OrgRow.of{E:Env}{pl:Pl}{c n br cap:Nat}{xs:List Org}(hx:xs≠ [])(h:RdP E.w (okF E pl c (.lnt n)) (qF E pl c (.lnt n)) (.slice (some ⟨br,0,none⟩) xs.length cap) (.sl 2 (xs.map Ty.org.toD))):OrgRow E.w br cap xs:=by
 obtain⟨b,off,cap',e,hcap,hrl,hq,u,hcl,hk⟩:=RdP.cells h (by simpa using hx)
 rw [List.length_map] at e
 obtain⟨rfl,rfl,rfl⟩:br=b∧0=off∧cap=cap' :=by injection e with e1 e2 e3;injection e1 with e1;injection e1 with e1 e4;exact⟨e1,e4,e3⟩
 obtain⟨t1,t2,t3,cs,ty,lo,hi',t4,t5,t6⟩:=hq.1
 rw [List.length_map] at hcap
 refine⟨hcap,cs,ty,lo,hi',t4,t5,t6,fun m hm k hk2=> ?_⟩
 have g1:=(hcl m k (by simpa using hm) hk2).1
 have hr:((xs.map Ty.org.toD)[m]'(by simpa using hm))=Ty.org.toD xs[m]:=by rw [List.getElem_map]
 have g2:=hk m k (by simpa using hm) (by rw [hr];exact hk2)
 rw [Nat.zero_add] at g1
 simp only [World.cell?,t4] at g1
 simp only [hr] at g2
 match k,hk2,g1,g2 with
 |0,_,g1,g2=>generalize u m 0=x at g1 g2;simp only [Ty.toD,List.getElem_cons_zero] at g2;cases g2;exact g1
 |1,_,g1,g2=>generalize u m 1=x at g1 g2;simp only [Ty.toD,List.getElem_cons_succ,List.getElem_cons_zero] at g2;cases g2;exact g1
structure Sorted (w:World) (bo br cap:Nat) (xs ys:List Org) (w' :World):Prop where
 os:w'.os=w.os
 tape:w'.tape=w.tape
 output:w'.output=w.output
 size:w.heap.size≤w'.heap.size
 old:∀b,b<w.heap.size→b≠bo→b≠br→w'.heap[b]? =w.heap[b]?
 box:∃ty,w'.heap[bo]? =some (.cells #[.slice (some ⟨br,0,none⟩) xs.length cap] ty (0,0))
 row:OrgRow w' br cap ys
theorem xPt{P:Program}{ρ:Ren}(L:LaysGg.n6 P ρ)(t e:TypeId)(i ie:TypeInfo)(hi:P.info? t=some i)(hd:i.desc= .slice e)(hpk:P.packed t=false)(hie:P.info? e=some ie)(ke:Nat)
 (hke:∀w,(Extern.Rtype.kind e).run P w= .ok ke w) (hnp:ie.hasPointers=false) (hby:ie.bytes=16) (f lf:Nat) (hf:P.funcs.findIdx? (·.name== "internal/reflectlite" ++ ".Swapper$9")=some f)
 {xs ys:List Org} (hl:ys.length=xs.length) (h2:2≤xs.length) (hlen:xs.length<4611686018427387904)
 (hpdq:AbsCalls P (ρ.f 14) [.val (.v true [.clo lf [gi 4],.swp f 0 (typeHandle P e) (gi 4)]),.val (.v false [.int .i64 0]),.val (.v false [.int .i64 xs.length]),.val (.v false [.int .i64 (Lib.bitLen xs.length)]),.gbox [.sl (.lnt 0) .org xs]] ⟨.tup [],[[.sl (.lnt 0) .org ys]],[]⟩)
 {w:World} {bo br cap:Nat} {ty:TypeId} (hbo:w.heap[bo]? =some (.cells #[.slice (some ⟨br,0,none⟩) xs.length cap] ty (0,0))) (hbr:OrgRow w br cap xs) (hne:bo≠br)
 (hbase:∀x∈zH7,x.1<w.heap.size∧x.1≠bo∧x.1≠br∧w.heap[x.1]? =some x.2):
 Calls P (ρ.f 6) #[.iface t (.slice (some ⟨br,0,none⟩) xs.length cap),.func (.func lf) #[] #[.pointer (some ⟨bo,0,none⟩)]] w fun en w' =>en= .returned (.tuple #[])∧Sorted w bo br cap xs ys w' :=by
 have hk9:swapperK xs.length ie ke=9:=by
  unfold swapperK
  have e0:(xs.length==0)=false:=beq_eq_false_iff_ne.2 (by omega)
  have e1:(xs.length==1)=false:=beq_eq_false_iff_ne.2 (by omega)
  simp [e0,e1,hnp,hby]
 have hbol:bo<w.heap.size:=(Array.getElem?_eq_some_iff.1 hbo).1
 have hbrl:br<w.heap.size:=by
  obtain⟨_,cs,ty,lo,hi,h,_⟩:=hbr
  exact(Array.getElem?_eq_some_iff.1 h).1
 refine Any.sort_Slice_of_pdq L t e i ie hi hd hpk hie ke hke (some ⟨br,0,none⟩) xs.length cap hlen f (by rw [hk9];exact hf) (.func lf) #[] #[.pointer (some ⟨bo,0,none⟩)] w (Sorted w bo br cap xs ys) ?_
 generalize hW:sliceWorld P ρ t (some ⟨br,0,none⟩) xs.length cap w=W
 have hWs:W.heap.size=w.heap.size+2:=by rw [←hW];unfold sliceWorld;rw [zBs,zBs]
 have hWo:∀b,b<w.heap.size→W.heap[b]? =w.heap[b]? :=by
  intro b hb
  rw [←hW]
  unfold sliceWorld
  have al:∀(w:World) (o:Obj) (b:Nat),b<w.heap.size→(w.alloc o).heap[b]? =w.heap[b]? :=fun w o b hb=>by
   show(w.heap.push o)[b]? =_
   rw [Array.getElem?_push,if_neg (by omega)]
  rw [al _ _ _ (by rw [zBs];omega),al _ _ _ hb]
 have hWos:W.os=w.os∧W.tape=w.tape∧W.output=w.output:=by rw [←hW];exact⟨rfl,rfl,rfl⟩
 let E:Env:= { w:=W,hw:=fun b=>if b=br then xs.length*2 else if b=bo then 0 else match w.heap[b]? with |some o=>zFu o|none=>0,
               ow:=fun b=>if b=bo then some (.box (gi 4)) else if b=br then some (.arr (.k (2*gi 4+1)) 0 []) else none,bx:=fun _=>bo,hdr:=fun _=> .slice (some ⟨br,0,none⟩) xs.length cap }
 have o1:E.ow bo=some (.box (gi 4)):=if_pos rfl
 have o2:E.ow br=some (.arr (.k (2*gi 4+1)) 0 []):=by show(if br=bo then _ else _)=_;rw [if_neg (Ne.symm hne),if_pos rfl]
 have o3:∀b,b≠bo→b≠br→E.ow b=none:=fun b h1 h2=>by show(if b=bo then _ else _)=_;rw [if_neg h1,if_neg h2]
 have hw2:E.hw br=xs.length*2:=if_pos rfl
 have hE:EnvOk E:=by
  refine⟨fun b hb=> ?_,fun b b' l h1 h2=> ?_,fun b s h=> ?_⟩
  ·have hb:W.heap.size≤b:=hb
   refine⟨o3 b (by omega) (by omega),?_⟩
   show(if b=br then _ else _)=_
   rw [if_neg (by omega),if_neg (by omega),Array.getElem?_eq_none (by omega)]
  ·by_cases c1:b=bo
   ·subst c1
    rw [o1] at h1;cases h1
    by_cases c2:b' =b
    ·exact c2.symm
    ·by_cases c3:b' =br
     ·subst c3;rw [o2] at h2;cases h2
     ·rw [o3 b' c2 c3] at h2;cases h2
   ·by_cases c2:b=br
    ·subst c2
     rw [o2] at h1;cases h1
     by_cases c3:b' =bo
     ·subst c3;rw [o1] at h2;cases h2
     ·by_cases c4:b' =b
      ·exact c4.symm
      ·rw [o3 b' c3 c4] at h2;cases h2
    ·rw [o3 b c1 c2] at h1;cases h1
  ·by_cases c1:b=bo
   ·subst c1
    show(if b=br then _ else _)=_
    rw [if_neg hne,if_pos rfl]
   ·by_cases c2:b=br
    ·subst c2;rw [o2] at h;cases h
    ·rw [o3 b c1 c2] at h;cases h
 have hB:Base E:=by
  intro x hx
  obtain⟨b1,b2,b3,b4⟩:=hbase x hx
  refine⟨by show _<W.heap.size;omega,o3 _ b2 b3,(hWo _ b1).trans b4,?_⟩
  show(if x.1=br then _ else _)=_
  rw [if_neg b3,if_neg b2,b4]
 have hrow:OrgRow E.w br cap xs:=by
  obtain⟨h1,cs,ty',lo,hi',h3,h4⟩:=hbr
  exact⟨h1,cs,ty',lo,hi',(hWo br hbrl).trans h3,h4⟩
 have hsb:sliceBound P e ie ke (some ⟨br,0,none⟩) xs.length cap= #[.slice (some ⟨br,0,none⟩) xs.length cap,typeHandle P e]:=by
  unfold sliceBound
  rw [hk9]
  rfl
 rw [hsb]
 have hA:ArgsAt E 0 [.val (.v true [.clo lf [gi 4],.swp f 0 (typeHandle P e) (gi 4)]),.val (.v false [.int .i64 0]),.val (.v false [.int .i64 xs.length]),.val (.v false [.int .i64 (Lib.bitLen xs.length)]),.gbox [.sl (.lnt 0) .org xs]]
  (#[.agg #[.func (.func lf) #[] #[.pointer (some ⟨bo,0,none⟩)],.func (.func f) #[] #[.slice (some ⟨br,0,none⟩) xs.length cap,typeHandle P e]],.int .i64 0,.int .i64 xs.length,.int .i64 (Lib.bitLen xs.length)]:Array Value).toList:=by
  refine⟨⟨_,rfl,⟨rfl,fun _ _=>trivial⟩,⟨⟨rfl,rfl⟩,fun ad l c he h=>rfl⟩,trivial⟩,⟨rfl,trivial⟩,⟨rfl,trivial⟩,⟨rfl,trivial⟩,⟨o1,_,ty,(hWo bo hbol).trans hbo,?_,trivial⟩,trivial⟩
  exact OrgRow.rd hrow o2 hw2 0 rfl
 have hdo:=hpdq E _ hE hB hA
 have e14:∀args w,(callFunc (ρ.f 14) args).run P w= .ok (.enter (ρ.f 14) args) w:=enters_of L.f14 (by kernel_rfl) rfl
 rcases hdo with ⟨v,w',h1,_⟩|⟨_,h1⟩
 ·rw [e14] at h1;cases h1
 refine h1.mono fun en w' hen=> ?_
 cases en with
 |returned v=>
  obtain⟨E',rfl,hx⟩:=hen
  have hv:v= .tuple #[]:=by
   obtain⟨vs,rfl,hvs⟩:=(hx.res.vr rfl:VR E' zAI (.h 0) (.tup []) v)
   cases vs with
   |mk l=>cases l with
    |nil=>rfl
    |cons x l=>exact hvs.elim
  subst hv
  obtain⟨⟨b1,vals,ty',b2,b3⟩,_⟩:=(hx.outs:zBr E' (gi 4) bo [.sl (.lnt 0) .org ys]∧True)
  have hhdr:E'.hdr 0= .slice (some ⟨br,0,none⟩) xs.length cap:=by rw [hx.hdr]
  cases vals with
  |mk l=>
   match l,b3 with
   | [hv],b3=>
     have b4:RdP E'.w (okF E' (.k (2*gi 4+1)) 0 (.lnt 0)) (qF E' (.k (2*gi 4+1)) 0 (.lnt 0)) hv (.sl 2 (ys.map Ty.org.toD)):=b3.1
     have b5:hv=E'.hdr 0:=(RdP.top b4).2 rfl
     rw [hhdr] at b5
     subst b5
     refine⟨rfl,hx.os.trans hWos.1,hx.tape.trans hWos.2.1,hx.output.trans hWos.2.2,by have:=hx.size;show _≤E'.w.heap.size;have h3:W.heap.size≤E'.w.heap.size:=this;omega,fun b hb hb1 hb2=> ?_,⟨ty',b2⟩,?_⟩
     ·exact((hx.old b (by show b<W.heap.size;omega) (o3 b hb1 hb2)).1).trans (hWo b hb)
     ·have:ys≠ []:=by intro e;rw [e] at hl;simp at hl;omega
      rw [←hl] at b4
      exact OrgRow.of this b4
   | [],b3=>exact b3.elim
   |_::_::_,b3=>exact b3.2.elim
 |_=>exact hen.elim
end Go.Ab
end
section
namespace Go.Ab
open Go.Proofs Go.RowKit
structure OrgT (P:Program) (te ti tm tb ts:TypeId):Prop where
 key:P.underlying te=some (.struct #[{ name:= "Cell",type:=ti,offset:=0,embedded:=false,tag:= "",pkgPath:= "",byteOffset:=0 },{ name:= "Row",type:=ti,offset:=1,embedded:=false,tag:= "",pkgPath:= "",byteOffset:=8 }])
 held:P.stoodInHeld te=false
 int:P.underlying ti=some (.int .i64)
 map:P.underlying tm=some (.map te tb)
 zero:∀w,(zeroValue tb).run P w= .ok (.bool false) w
 slice:P.underlying ts=some (.slice te)
def orgV(o:Org):Value:= .agg #[.int .i64 o.cell,.int .i64 o.row]
section
variable {P:Program} {te ti tm tb ts:TypeId} (T:OrgT P te ti tm tb ts) {w:World}
include T
theorem xUT:P.plainKey ti=true:=by simp [Program.plainKey,T.int]
theorem vIQ(o:Org):(part ti #[.int .i64 o.cell,.int .i64 o.row] 0).run P w= .ok (.int .i64 o.cell) w:=run_part_plain w (xUT T) rfl
theorem vIR(o:Org):(part ti #[.int .i64 o.cell,.int .i64 o.row] 1).run P w= .ok (.int .i64 o.row) w:=run_part_plain w (xUT T) rfl
theorem xOx(em:Bool)(n:Nat)(k:IntKind)(x:Int):(Instr.checkKey em (n+1) ti (.int k x)).run P w= .ok () w:=by
 unfold Instr.checkKey
 simp [run_underlying T.int]
theorem xLU(em:Bool)(n:Nat)(o:Org):(Instr.checkKey em (n+2) te (orgV o)).run P w= .ok () w:=by
 unfold Instr.checkKey orgV
 simp [run_underlying T.key,vIQ T,vIR T,xOx T,Result.andThen]
theorem xNu(a b:Org):(Op.equal te (orgV a) (orgV b)).run P w= .ok (a==b) w:=by
 have hf:P.fieldsOf te= #[{ name:= "Cell",type:=ti,offset:=0,embedded:=false,tag:= "",pkgPath:= "",byteOffset:=0 },{ name:= "Row",type:=ti,offset:=1,embedded:=false,tag:= "",pkgPath:= "",byteOffset:=8 }]:=by unfold Program.fieldsOf;rw [T.key]
 show(Op.equalIn 10000 te (.agg _) (.agg _)).run P w=_
 rw [run_equalIn_agg w 9999 te _ _ (by rw [hf];exact T.key) T.held,hf]
 have e1:=run_equalIn_int (P:=P) w 9998 ti .i64 .i64 a.cell b.cell T.int
 have e2:=run_equalIn_int (P:=P) w 9998 ti .i64 .i64 a.row b.row T.int
 have h:(a==b)=((a.cell==b.cell)&&(a.row==b.row)):=by
  cases a;cases b
  rw [Bool.eq_iff_iff]
  simp
 rw [h]
 simp [Op.eqFields,vIQ T,vIR T,e1,e2,Result.andThen]
 by_cases h1:a.cell=b.cell <;>by_cases h2:a.row=b.row <;>simp [h1,h2]
end
def SetMap(w:World)(b:Nat)(ks:List Org):Prop:=
 ∃es clock,w.heap[b]? =some (.map es clock)∧es.toList.map (·.key)=ks.map orgV∧∀e∈es.toList,e.val= .bool true
theorem SetMap.kept{w w' :World}{b:Nat}{ks:List Org}(h:SetMap w b ks)(e:w'.heap[b]? =w.heap[b]?):SetMap w' b ks:=by
 obtain⟨es,c,h1,h2⟩:=h
 exact⟨es,c,e.trans h1,h2⟩
section
variable {P:Program} {te ti tm tb ts:TypeId} (T:OrgT P te ti tm tb ts) {w:World}
include T
theorem xPG(o:Org):∀(es:List MapEntry) (ks:List Org) (i:Nat),es.map (·.key)=ks.map orgV→(∀e∈es,e.val= .bool true)→
 ∃r,(Instr.findAsking te (orgV o) es i).run P w= .ok r w∧(ks.contains o=true→∃j,r=some (j,.bool true))∧(ks.contains o=false→r=none):=by
 intro es
 induction es with
 |nil=>
  intro ks i h _
  have:ks=[]:=by simpa using h.symm
  subst this
  exact⟨none,by simp [Instr.findAsking],by simp,fun _=>rfl⟩
 |cons e es ih=>
  intro ks i h hv
  cases ks with
  |nil=>simp at h
  |cons k ks=>
   simp only [List.map_cons,List.cons.injEq] at h
   obtain⟨h1,h2⟩:=h
   obtain⟨r,hr,p1,p2⟩:=ih ks (i+1) h2 (fun x hx=>hv x (List.mem_cons_of_mem _ hx))
   by_cases hk:o=k
   ·subst hk
    refine⟨some (i,.bool true),?_,fun _=>⟨i,rfl⟩,by simp⟩
    unfold Instr.findAsking
    simp [h1,xNu T,Result.andThen,hv e List.mem_cons_self]
   ·have hb:(o==k)=false:=by simpa using hk
    refine⟨r,?_,fun hc=>p1 ?_,fun hc=>p2 ?_⟩
    ·unfold Instr.findAsking
     simp [h1,xNu T,Result.andThen,hb,hr]
    ·rw [List.contains_cons,hb,Bool.false_or] at hc;exact hc
    ·rw [List.contains_cons,hb,Bool.false_or] at hc;exact hc
theorem xOU(o:Org)(es:List MapEntry)(ks:List Org)(h:es.map (·.key)=ks.map orgV)(hv:∀e∈es,e.val= .bool true):
 ∃r,(Instr.findKey te (orgV o) es).run P w= .ok r w∧(ks.contains o=true→∃j,r=some (j,.bool true))∧(ks.contains o=false→r=none):=by
 cases es with
 |nil=>
  have:ks=[]:=by simpa using h.symm
  subst this
  exact⟨none,by simp [Instr.findKey,run_underlying T.key,Instr.findNow,Result.andThen],by simp,fun _=>rfl⟩
 |cons e es=>
  cases ks with
  |nil=>simp at h
  |cons k ks=>
   obtain⟨r,hr,p⟩:=xPG T (w:=w) o (e::es) (k::ks) 0 h hv
   refine⟨r,?_,p⟩
   have:Instr.findNow (.struct #[{ name:= "Cell",type:=ti,offset:=0,embedded:=false,tag:= "",pkgPath:= "",byteOffset:=0 },{ name:= "Row",type:=ti,offset:=1,embedded:=false,tag:= "",pkgPath:= "",byteOffset:=8 }]) (orgV o) (e::es) 0=none:=by
    simp [Instr.findNow,Instr.sameNow]
   simp [Instr.findKey,run_underlying T.key,this,Result.andThen,hr]
theorem xP7{b:Nat}{ks:List Org}(h:SetMap w b ks)(o:Org):(Instr.lookup tm (.map (some b)) (orgV o) false).run P w= .ok (.bool (ks.contains o)) w:=by
 obtain⟨es,c,h1,h2,h3⟩:=h
 obtain⟨r,hr,p1,p2⟩:=xOU T (w:=w) o es.toList ks h2 h3
 unfold Instr.lookup
 have hg:(getObj b).run P w= .ok (.map es c) w:=by simp [getObj,Sem.run,h1]
 have hck:(Instr.checkKey es.isEmpty 10000 te (orgV o)).run P w= .ok () w:=xLU T es.isEmpty 9998 o
 cases hc:ks.contains o with
 |true=>
  obtain⟨j,rfl⟩:=p1 hc
  simp [run_underlying T.map,hg,hck,hr,Result.andThen]
 |false=>
  obtain rfl:=p2 hc
  simp [run_underlying T.map,hg,hck,hr,T.zero,Result.andThen]
theorem xP8{b:Nat}{ks:List Org}(h:SetMap w b ks)(o:Org)(hc:ks.contains o=false):
 ∃w',(Instr.mapUpdate tm (.map (some b)) (orgV o) (.bool true)).run P w= .ok () w' ∧SetMap w' b (ks++ [o])∧w.grownBy w' (some b)∧w'.heap.size=w.heap.size:=by
 obtain⟨es,c,h1,h2,h3⟩:=h
 obtain⟨r,hr,p1,p2⟩:=xOU T (w:=w) o es.toList ks h2 h3
 obtain rfl:=p2 hc
 have hb:b<w.heap.size:=(Array.getElem?_eq_some_iff.1 h1).1
 have hg:(getObj b).run P w= .ok (.map es c) w:=by simp [getObj,Sem.run,h1]
 have hck:(Instr.checkKey false 10000 te (orgV o)).run P w= .ok () w:=xLU T false 9998 o
 have hs:∀ob,(setObj b ob).run P w= .ok () { w with heap:=w.heap.setIfInBounds b ob }:=by
  intro ob
  simp [setObj,Sem.run,h1]
 refine⟨{ w with heap:=w.heap.setIfInBounds b (.map (es.push { key:=orgV o,val:= .bool true,born:=c }) (c+1)) },?_,?_,⟨rfl,rfl,rfl,by simp,fun k hk hne=> ?_⟩,by simp⟩
 ·unfold Instr.mapUpdate
  simp [run_underlying T.map,hg,hck,hr,hs,Result.andThen]
 ·refine⟨_,_,by simp [hb];exact⟨rfl,rfl⟩,?_,?_⟩
  ·simp [h2]
  ·intro e he
   simp at he
   rcases he with he|rfl
   ·exact h3 e (by simpa using he)
   ·rfl
 ·have:b≠k:=fun e=>hne (by rw [e])
  simp [Array.getElem?_setIfInBounds,this]
end
section
variable {P:Program} {te ti tm tb ts:TypeId} (w:World) {ops:Array Oper} {rest:List Oper} {o:Oper} {a:Act} {Q:Exit→Act→World→Prop}
theorem xLu(T:OrgT P te ti tm tb ts)(hg:o.guard=none)(m x:Operand)(hop:o.op=Op.lookup tm m x false)(b:Nat)(ks:List Org)(hm:a.eval m= .map (some b))(hs:SetMap w b ks)(c:Org)(hx:a.eval x=orgV c)(bv:Bool)(hbv:ks.contains c=bv)
 (hK:wpList P ops Q rest (a.put o.dst (.bool bv)) w):wpList P ops Q (o::rest) a w:=by
 refine wpList_plain hg fun K' hK' => ?_
 have hrun:=xP7 T hs c
 rw [hbv] at hrun
 unfold Oper.wp
 simp [execOp,hop,hm,hx,hrun,Result.andThen]
 exact hK' _ _ hK
theorem xN5(T:OrgT P te ti tm tb ts)(hg:o.guard=none)(m x v:Operand)(hop:o.op=Op.mapUpdate tm m x v)(b:Nat)(ks:List Org)(hm:a.eval m= .map (some b))(hs:SetMap w b ks)(c:Org)(hx:a.eval x=orgV c)(hv:a.eval v= .bool true)
 (hc:ks.contains c=false) (hK:∀w',SetMap w' b (ks++ [c])→w.grownBy w' (some b)→w'.heap.size=w.heap.size→wpList P ops Q rest (a.put o.dst undef) w'):wpList P ops Q (o::rest) a w:=by
 refine wpList_plain hg fun K' hK' => ?_
 obtain⟨w',hrun,r1,r2,r3⟩:=xP8 T hs c hc
 unfold Oper.wp
 simp [execOp,hop,hm,hx,hv,hrun,Result.andThen]
 exact hK' _ _ (hK w' r1 r2 r3)
end
def orgs(os:List Org):List Value:=os.flatMap zAu
theorem xOE:∀os:List Org,(orgs os).length=os.length*2
 | []=>rfl
 |o::os=>by
  show(zAu o++orgs os).length=_
  rw [jA,xOE os]
  simp [zAu];omega
theorem xXH(a b:List Org):orgs (a++b)=orgs a++orgs b:=List.flatMap_append
theorem xPo:∀(os:List Org) (m:Nat) (hm:m<os.length) (k:Nat) (hk:k<2),(orgs os)[m*2+k]? =some ((zAu os[m])[k]'hk)
 | [],m,hm,_,_=>absurd hm (by simp)
 |o::os,0,hm,k,hk=>by
  show(zAu o++orgs os)[0*2+k]? =_
  rw [Nat.zero_mul,Nat.zero_add,List.getElem?_append_left hk]
  exact List.getElem?_eq_getElem hk
 |o::os,m+1,hm,k,hk=>by
  show(zAu o++orgs os)[(m+1)*2+k]? =_
  rw [List.getElem?_append_right (by show 2≤_;omega)]
  have e:(m+1)*2+k - (zAu o).length=m*2+k:=by show(m+1)*2+k - 2=_;omega
  rw [e]
  exact xPo os m (by simpa using hm) k hk
theorem xXI(os:List Org):∀u∈orgs os,u.oneCell' =true:=by
 intro u hu
 obtain⟨o,_,hu⟩:=List.mem_flatMap.1 hu
 simp only [zAu,List.mem_cons,List.not_mem_nil,or_false] at hu
 rcases hu with rfl|rfl <;>rfl
def RowIn(w:World)(v:Value)(os:List Org):Prop:=
 ∃p c,v= .slice p os.length c∧(os=[]∨∃a:Addr,p=some a∧a.block<w.heap.size∧∀j u,(orgs os)[j]? =some u→w.cell? (a.add j)=some u)
theorem xPr{P:Program}(w:World)(t ty e:TypeId)(i:TypeInfo)(ht:P.underlying t=some (.slice e))(hi:P.info? e=some i)(b:Option Addr)(n cap c:Nat)(h:n≤cap):
 (Builtin.append_ #[t,t] ty #[.slice b n cap,.slice none 0 c]).run P w= .ok (.slice b n cap) w:=by
 cases b with
 |none=>simp [Builtin.append_,run_underlying ht,sizeOf,typeInfo,hi,Builtin.lenOf,Builtin.firstCells,h,Result.andThen]
 |some ad=>simp [Builtin.append_,run_underlying ht,sizeOf,typeInfo,hi,Builtin.lenOf,Builtin.firstCells,storeCells,h,Result.andThen]
def OwnRow(w:World)(te g cap:Nat)(xs:List Org):Prop:=
 ∃cur,w.heap[g]? =some (.cells cur te (0,0))∧xs.length≤cap∧cap≤maxLen∧cur.size=cap*2∧cur.toList.take (xs.length*2)=orgs xs
theorem OwnRow.kept{w w' :World}{te g cap:Nat}{xs:List Org}(h:OwnRow w te g cap xs)(e:w'.heap[g]? =w.heap[g]?):OwnRow w' te g cap xs:=by
 obtain⟨cur,h1,h2⟩:=h
 exact⟨cur,e.trans h1,h2⟩
theorem OwnRow.lt{w:World}{te g cap:Nat}{xs:List Org}(h:OwnRow w te g cap xs):g<w.heap.size:=by
 obtain⟨cur,h1,h2⟩:=h
 exact(Array.getElem?_eq_some_iff.1 h1).1
theorem OwnRow.cell{w:World}{te g cap:Nat}{xs:List Org}(h:OwnRow w te g cap xs){j:Nat}{u:Value}(hj:(orgs xs)[j]? =some u):w.cell? ⟨g,j,none⟩=some u:=by
 obtain⟨cur,h1,h2,h3,h4,h5⟩:=h
 simp only [World.cell?,h1]
 rw [←h5,List.getElem?_take] at hj
 split at hj
 ·simpa using hj
 ·cases hj
theorem OwnRow.org{w:World}{te g cap:Nat}{xs:List Org}(h:OwnRow w te g cap xs):OrgRow w g cap xs:=by
 have hc:=fun j u=>h.cell (j:=j) (u:=u)
 obtain⟨cur,h1,h2,h3,h4,h5⟩:=h
 refine⟨h2,cur,te,0,0,h1,h4.symm,fun o a b=>by omega,fun m hm k hk=> ?_⟩
 have:=hc _ _ (xPo xs m hm k hk)
 simpa [World.cell?,h1] using this
theorem xSi{P:Program}{te ti tm tb ts:TypeId}(T:OrgT P te ti tm tb ts)(w:World)(ty:Nat)(i:TypeInfo)(hi:P.info? te=some i){z:Value}(hz:i.zero=some z)(hsize:i.size=2)(hby:i.bytes=16)(hzs:z.cells.size=2)
 {g cap:Nat} {xs:List Org} (hown:OwnRow w te g cap xs) {u:Value} {ys:List Org} (hin:RowIn w u ys) (hlen:xs.length+ys.length≤1000000000000):
 ∃g' cap' w',(Builtin.append_ #[ts,ts] ty #[.slice (some ⟨g,0,none⟩) xs.length cap,u]).run P w= .ok (.slice (some ⟨g',0,none⟩) (xs++ys).length cap') w' ∧OwnRow w' te g' cap' (xs++ys)∧w.grownBy w' (some g)∧(g' =g∨g' =w.heap.size):=by
 obtain⟨p,c,rfl,hp⟩:=hin
 have hown0:w.ownsRow 0 te 2 (.slice (some ⟨g,0,none⟩) xs.length cap) xs.length (orgs xs):=by
  obtain⟨cur,h1,h2,h3,h4,h5⟩:=hown
  exact⟨xOE xs,.inr ⟨g,cap,cur,rfl,Nat.zero_le _,h1,h2,h3,h4,h5⟩⟩
 have main:∀ad:Addr,(∀j u,(orgs ys)[j]? =some u→w.cell? (ad.add j)=some u)→∃g' cap' w',(Builtin.append_ #[ts,ts] ty #[.slice (some ⟨g,0,none⟩) xs.length cap,.slice (some ad) ys.length c]).run P w= .ok (.slice (some ⟨g',0,none⟩) (xs++ys).length cap') w' ∧
  OwnRow w' te g' cap' (xs++ys)∧w.grownBy w' (some g)∧(g' =g∨g' =w.heap.size):=by
  intro ad had
  obtain⟨v',w',hr,h2,h3,h4,h5⟩:=run_append_own_at (P:=P) w 0 ts ty te i z 2 16 T.slice hi hz hsize hby hzs (by decide) _ xs.length (orgs xs) hown0 ad ys.length c (orgs ys) (xOE ys) had (xXI ys) (by unfold maxLen;omega) (by omega) (Nat.zero_le _)
  rcases h2.2 with ⟨rfl,_⟩|⟨g',cap',cur,rfl,_,q1,q2,q3,q4,q5⟩
  ·have:=h4.1 rfl
   exact absurd this.1 (by simp)
  ·refine⟨g',cap',w',by rw [hr,List.length_append],⟨cur,q1,by rw [jA];exact q2,q3,q4,by rw [jA,xXH];exact q5⟩,h3,?_⟩
   simpa [Value.ownBlock] using h5
 rcases hp with hnil|⟨ad,rfl,_,had⟩
 ·subst hnil
  cases p with
  |some ad=>exact main ad (fun j u h=>by simp [orgs] at h)
  |none=>
   have hn:xs.length≤cap:=by obtain⟨cur,h1,h2,_⟩:=hown;exact h2
   refine⟨g,cap,w,?_,by rw [List.append_nil];exact hown,⟨rfl,rfl,rfl,Nat.le_refl _,fun _ _ _=>rfl⟩,.inl rfl⟩
   rw [List.append_nil]
   exact xPr w ts ty te i T.slice hi (some ⟨g,0,none⟩) xs.length cap c hn
 ·exact main ad had
theorem xJ1{P:Program}{te ti tm tb ts:TypeId}(w:World){ops:Array Oper}{rest:List Oper}{o:Oper}{a:Act}{Q:Exit→Act→World→Prop}(T:OrgT P te ti tm tb ts)(hg:o.guard=none)(s x:Operand)
 (hop:o.op= .call { callee:= .builtin .append,args:= #[s,x],argTypes:= #[ts,ts] }) (i:TypeInfo) (hi:P.info? te=some i) {z:Value} (hz:i.zero=some z) (hsize:i.size=2) (hby:i.bytes=16) (hzs:z.cells.size=2)
 (g cap:Nat) (xs:List Org) (hs:a.eval s= .slice (some ⟨g,0,none⟩) xs.length cap) (hown:OwnRow w te g cap xs) (u:Value) (hx:a.eval x=u) (ys:List Org) (hin:RowIn w u ys) (hlen:xs.length+ys.length≤1000000000000)
 (hK:∀g' cap' w',OwnRow w' te g' cap' (xs++ys)→w.grownBy w' (some g)→(g' =g∨g' =w.heap.size)→wpList P ops Q rest (a.put o.dst (.slice (some ⟨g',0,none⟩) (xs++ys).length cap')) w'):
 wpList P ops Q (o::rest) a w:=by
 refine wpList_plain hg fun K' hK' => ?_
 obtain⟨g',cap',w',hr,h2,h3,h4⟩:=xSi (P:=P) T w o.type i hi hz hsize hby hzs hown hin hlen
 unfold Oper.wp execOp
 simp only [hop,resolve,invoke,builtin,Sem.run_bind,Sem.run_pure,Result.andThen_ok,List.map_toArray,List.map_cons,List.map_nil,hs,hx,hr]
 exact hK' _ _ (hK g' cap' w' h2 h3 h4)
theorem RowIn.kept{w w' :World}{v:Value}{os:List Org}(h:RowIn w v os)(hs:w.heap.size≤w'.heap.size)(ho:∀b,b<w.heap.size→w'.heap[b]? =w.heap[b]?):RowIn w' v os:=by
 obtain⟨p,c,rfl,h⟩:=h
 refine⟨p,c,rfl,h.imp id ?_⟩
 rintro ⟨a,rfl,ha,hc⟩
 refine⟨a,rfl,by omega,fun j u hj=> ?_⟩
 rw [←hc j u hj]
 have e:(a.add j).block=a.block:=by unfold Addr.add;split <;>rfl
 simp only [World.cell?,e,ho _ ha]
theorem xKd{w:World}{o:Obj}{b:Nat}(hb:b<w.heap.size):(w.alloc o).heap[b]? =w.heap[b]? :=Below.heap_alloc w o b hb
theorem xIW(w:World)(o:Obj):(w.alloc o).heap.size=w.heap.size+1:=Array.size_push _
theorem RowIn.below{w w' :World}{v:Value}{os:List Org}(h:RowIn w v os)(hb:Below w.heap.size w w'):RowIn w' v os:=h.kept hb.size hb.block
theorem set4(w:World)(o1 o2 o3:Obj)(te:TypeId):OwnRow ((((w.alloc o1).alloc o2).alloc o3).alloc (.cells #[] te)) te (w.heap.size+1+1+1) 0 []:=by
 refine⟨#[],?_,Nat.le_refl _,by decide,rfl,rfl⟩
 have e:w.heap.size+1+1+1=(((w.alloc o1).alloc o2).alloc o3).heap.size:=by rw [xIW,xIW,xIW]
 rw [e]
 show(Array.push _ _)[_]? =_
 rw [Array.getElem?_push,if_pos rfl]
theorem xVT(w:World)(o1 o2 o3 o4:Obj):Below w.heap.size w ((((w.alloc o1).alloc o2).alloc o3).alloc o4):=
 ((((Below.refl w.heap.size w).alloc (Nat.le_refl _) o1).alloc (by rw [xIW];omega) o2).alloc (by rw [xIW,xIW];omega) o3).alloc (by rw [xIW,xIW,xIW];omega) o4
theorem xUG(os:List Org)(k:Nat)(hk:k<os.length):ded (os.take (k+1))=zIy (ded (os.take k)) os[k]:=by
 unfold ded
 rw [List.take_succ_eq_append_getElem hk,List.foldl_append]
 rfl
theorem vB8(os:List Org):(ded os).length≤os.length:=by
 unfold ded
 have:∀(os acc:List Org),(os.foldl zIy acc).length≤acc.length+os.length:=by
  intro os
  induction os with
  |nil=>intro acc;simp
  |cons o os ih=>
   intro acc
   rw [List.foldl_cons]
   refine Nat.le_trans (ih _) ?_
   unfold zIy
   split <;>simp <;>omega
 simpa using this os []
structure URel (w:World) (te ts B S ga ca:Nat) (all:List Org) (k g cap:Nat) (wr:World):Prop where
 set:SetMap wr B (ded (all.take k))
 box:wr.heap[B+1+1]? =some (.cells #[.slice (some ⟨g,0,none⟩) (ded (all.take k)).length cap] ts (0,0))
 row:OwnRow wr te g cap (ded (all.take k))
 all:OwnRow wr te ga ca all
 below:Below B w wr
 size:S≤wr.heap.size
 hg:g=B+1∨S≤g
 hga:B+3≤ga∧ga<S
theorem URel.cell{w wr:World}{te ts B S ga ca k g cap:Nat}{all:List Org}(h:URel w te ts B S ga ca all k g cap wr):wr.cell? ⟨B+1+1,0,none⟩=some (.slice (some ⟨g,0,none⟩) (ded (all.take k)).length cap):=by
 simp [World.cell?,h.box]
theorem URel.old{w wr:World}{te ts B S ga ca k g cap:Nat}{all:List Org}(h:URel w te ts B S ga ca all k g cap wr)(hk:k<all.length)(hc:(ded (all.take k)).contains all[k]=true)(o:Obj):URel w te ts B S ga ca all (k+1) g cap (wr.alloc o):=by
 have hsz:=h.size
 have hal:∀b,b<wr.heap.size→(wr.alloc o).heap[b]? =wr.heap[b]? :=fun b hb=>xKd (by omega)
 have e:ded (all.take (k+1))=ded (all.take k):=by rw [xUG _ _ hk];unfold zIy;rw [if_pos hc]
 have h1:=h.hga
 refine⟨by rw [e];exact h.set.kept (hal _ (by omega)),by rw [e,hal _ (by omega)];exact h.box,by rw [e];exact h.row.kept (hal _ h.row.lt),h.all.kept (hal _ h.all.lt),h.below.alloc (by omega) _,by rw [xIW];omega,h.hg,h1⟩
theorem xUA{w:World}{b:Nat}{v0 v:Value}{ty:TypeId}(h:w.heap[b]? =some (.cells #[v0] ty (0,0))):(w.setCell ⟨b,0,none⟩ v).heap[b]? =some (.cells #[v] ty (0,0))∧∀k,k≠b→(w.setCell ⟨b,0,none⟩ v).heap[k]? =w.heap[k]? :=by
 refine⟨?_,fun k hk=>Below.heap_setCell w _ v k hk⟩
 have hb:b<w.heap.size:=(Array.getElem?_eq_some_iff.1 h).1
 simp [World.setCell,Array.getElem?_modify,h]
theorem URel.new{w wr w2 w4:World}{te ts B S ga ca k g cap g' cap' :Nat}{all:List Org}(h:URel w te ts B S ga ca all k g cap wr)(hk:k<all.length)(hc:(ded (all.take k)).contains all[k]=false){o1 o3:Obj}
 (s2:SetMap w2 B (ded (all.take k)++ [all[k]])) (g2:(wr.alloc o1).grownBy w2 (some B)) (z2:w2.heap.size=(wr.alloc o1).heap.size)
 (r4:OwnRow w4 te g' cap' (ded (all.take k)++ [all[k]])) (g4:(w2.alloc o3).grownBy w4 (some g)) (hg' :g' =g∨g' =(w2.alloc o3).heap.size):
 URel w te ts B S ga ca all (k+1) g' cap' (w4.setCell ⟨B+1+1,0,none⟩ (.slice (some ⟨g',0,none⟩) (ded (all.take k)++ [all[k]]).length cap')):=by
 have hsz:=h.size
 have e:ded (all.take (k+1))=ded (all.take k)++ [all[k]]:=by rw [xUG _ _ hk];unfold zIy;rw [if_neg (by rw [hc];simp)]
 have h1:=h.hga
 have h2:=h.hg
 have hgl:=h.row.lt
 have zs1:(wr.alloc o1).heap.size=wr.heap.size+1:=xIW _ _
 have zs3:(w2.alloc o3).heap.size=w2.heap.size+1:=xIW _ _
 have z4:=g4.size
 have q1:∀b,b<wr.heap.size→b≠B→w2.heap[b]? =wr.heap[b]? :=fun b hb hne=>(g2.block b (by omega) (by simp;omega)).trans (xKd (by omega))
 have q4:∀b,b<wr.heap.size→b≠B→b≠g→w4.heap[b]? =wr.heap[b]? :=fun b hb hne hne2=>((g4.block b (by omega) (by simp;omega)).trans (xKd (by omega))).trans (q1 b hb hne)
 have hbx:w4.heap[B+1+1]? =some (.cells #[.slice (some ⟨g,0,none⟩) (ded (all.take k)).length cap] ts (0,0)):=(q4 _ (by omega) (by omega) (by omega)).trans h.box
 obtain⟨b1,b2⟩:=xUA (v:= .slice (some ⟨g',0,none⟩) (ded (all.take k)++ [all[k]]).length cap') hbx
 refine⟨?_,?_,?_,?_,?_,?_,?_,h1⟩
 ·rw [e]
  exact s2.kept ((b2 _ (by omega)).trans ((g4.block B (by omega) (by simp;omega)).trans (xKd (by omega))))
 ·rw [e];exact b1
 ·rw [e];exact r4.kept (b2 _ (by omega))
 ·exact h.all.kept ((b2 _ (by omega)).trans (q4 _ h.all.lt (by omega) (by omega)))
 ·refine Below.setCell ?_ (by show B≤B+1+1;omega) _
  refine Below.grown ?_ g4 (by omega) (fun k hk=>by cases hk;omega)
  refine Below.alloc ?_ (by omega) _
  refine Below.grown ?_ g2 (by omega) (fun k hk=>by cases hk;omega)
  exact h.below.alloc (by omega) _
 ·have:(w4.setCell ⟨B+1+1,0,none⟩ (.slice (some ⟨g',0,none⟩) (ded (all.take k)++ [all[k]]).length cap')).heap.size=w4.heap.size:=by simp [World.setCell]
  omega
 ·omega
theorem URel.start{w w1 w2:World}{te ts g1 g2 c2:Nat}{xs ys:List Org}(r2:OwnRow w2 te g2 c2 ([]++xs++ys))
 (gr1:((((w.alloc (.map #[] 0)).alloc (.cells #[] te)).alloc (.cells #[.slice (some { block:=w.heap.size+1,off:=0 }) 0 0] ts)).alloc (.cells #[] te)).grownBy w1 (some (w.heap.size+1+1+1)))
 (e1:g1=w.heap.size+1+1+1∨g1=((((w.alloc (.map #[] 0)).alloc (.cells #[] te)).alloc (.cells #[.slice (some { block:=w.heap.size+1,off:=0 }) 0 0] ts)).alloc (.cells #[] te)).heap.size)
 (gr2:w1.grownBy w2 (some g1)) (e2:g2=g1∨g2=w1.heap.size):URel w te ts w.heap.size w2.heap.size g2 c2 (xs++ys) 0 (w.heap.size+1) 0 w2:=by
 generalize hA:((w.alloc (.map #[] 0)).alloc (.cells #[] te)).alloc (.cells #[.slice (some { block:=w.heap.size+1,off:=0 }) 0 0] ts)=A at gr1 e1
 have za:A.heap.size=w.heap.size+3:=by rw [←hA,xIW,xIW,xIW]
 have z4:(A.alloc (.cells #[] te)).heap.size=w.heap.size+4:=by rw [xIW,za]
 have s1:=gr1.size
 have s2:=gr2.size
 have a0:A.heap[w.heap.size]? =some (.map #[] 0):=by
  rw [←hA,xKd (by rw [xIW,xIW];omega),xKd (by rw [xIW];omega)]
  show(Array.push _ _)[_]? =_
  rw [Array.getElem?_push,if_pos rfl]
 have a1:A.heap[w.heap.size+1]? =some (.cells #[] te):=by
  rw [←hA,xKd (by rw [xIW,xIW];omega)]
  show(Array.push _ _)[_]? =_
  rw [Array.getElem?_push,if_pos (xIW _ _).symm]
 have a2:A.heap[w.heap.size+1+1]? =some (.cells #[.slice (some { block:=w.heap.size+1,off:=0 }) 0 0] ts):=by
  rw [←hA]
  show(Array.push _ _)[_]? =_
  rw [Array.getElem?_push,if_pos (by rw [xIW,xIW])]
 have keep:∀b,b<w.heap.size+3→w2.heap[b]? =A.heap[b]? :=fun b hb=>
  (gr2.block b (by omega) (by simp;omega)).trans ((gr1.block b (by omega) (by simp;omega)).trans (xKd (by omega)))
 have hd:ded ((xs++ys).take 0)=[]:=by simp [ded]
 refine⟨?_,?_,?_,by simpa using r2,?_,Nat.le_refl _,.inl rfl,by omega,?_⟩
 ·rw [hd];exact⟨#[],0,(keep _ (by omega)).trans a0,rfl,by simp⟩
 ·rw [hd];exact(keep _ (by omega)).trans a2
 ·rw [hd];exact⟨#[],(keep _ (by omega)).trans a1,Nat.le_refl _,by decide,rfl,rfl⟩
 ·refine Below.grown (Below.grown ?_ gr1 (by omega) (fun k hk=>by cases hk;omega)) gr2 (by omega) (fun k hk=>by cases hk;omega)
  rw [←hA]
  exact xVT w _ _ _ _
 ·exact r2.lt
theorem URel.mid{w wr w3:World}{te ts B S ga ca k g cap:Nat}{all:List Org}(h:URel w te ts B S ga ca all k g cap wr){a b:Value}(g3:(wr.alloc (.cells #[a,b] te)).grownBy w3 (some B))(z3:w3.heap.size=(wr.alloc (.cells #[a,b] te)).heap.size):
 w3.cell? ⟨B+1+1,0,none⟩=some (.slice (some ⟨g,0,none⟩) (ded (all.take k)).length cap)∧w3.cell? ⟨wr.heap.size,0,none⟩=some a∧w3.cell? ⟨wr.heap.size,1,none⟩=some b∧∀o,OwnRow (w3.alloc o) te g cap (ded (all.take k)):=by
 have hsz:=h.size
 have h1:=h.hga
 have h2:=h.hg
 have hgl:=h.row.lt
 have zs1:=xIW wr (.cells #[a,b] te)
 have q1:∀b,b<wr.heap.size→b≠B→w3.heap[b]? =wr.heap[b]? :=fun b hb hne=>(g3.block b (by omega) (by simp;omega)).trans (xKd (by omega))
 have qn:w3.heap[wr.heap.size]? =some (.cells #[a,b] te):=by
  rw [g3.block _ (by omega) (by simp;omega)]
  show(Array.push _ _)[_]? =_
  rw [Array.getElem?_push,if_pos rfl]
 refine⟨?_,by simp [World.cell?,qn],by simp [World.cell?,qn],fun o=> ?_⟩
 ·simp only [World.cell?,q1 (B+1+1) (by omega) (by omega),h.box]
  rfl
 ·exact h.row.kept ((xKd (by omega)).trans (q1 g hgl (by omega)))
theorem xXi(w:World)(te:Nat)(c:Org):RowIn (w.alloc (.cells #[.int .i64 c.cell,.int .i64 c.row] te)) (.slice (some ⟨w.heap.size,0,none⟩) 1 1) [c]:=by
 refine⟨_,1,rfl,.inr ⟨_,rfl,by rw [xIW];exact Nat.lt_succ_self _,fun j u hj=> ?_⟩⟩
 have hq:∀i,(w.alloc (.cells #[.int .i64 c.cell,.int .i64 c.row] te)).cell? ⟨w.heap.size,i,none⟩=(#[.int .i64 c.cell,.int .i64 c.row]:Array Value)[i]? :=fun i=>by
  have hq:(w.alloc (.cells #[.int .i64 c.cell,.int .i64 c.row] te)).heap[w.heap.size]? =some (.cells #[.int .i64 c.cell,.int .i64 c.row] te):=by
   show(Array.push _ _)[_]? =_
   rw [Array.getElem?_push,if_pos rfl]
  simp only [World.cell?,hq]
  rfl
 match j,hj with
 |0,hj=>
  simp [orgs,zAu] at hj
  subst hj
  simp only [Addr.add]
  exact hq _
 |1,hj=>
  simp [orgs,zAu] at hj
  subst hj
  simp only [Addr.add]
  exact hq _
 |j+2,hj=>simp [orgs,zAu] at hj
theorem URel.mid4{w wr w3 w4:World}{te ts B S ga ca k g cap:Nat}{all:List Org}(h:URel w te ts B S ga ca all k g cap wr){o1 o3:Obj}(g3:(wr.alloc o1).grownBy w3 (some B))(z3:w3.heap.size=(wr.alloc o1).heap.size)
 (g4:(w3.alloc o3).grownBy w4 (some g)):
 w4.cell? ⟨B+1+1,0,none⟩=some (.slice (some ⟨g,0,none⟩) (ded (all.take k)).length cap)∧w4.frozen? ⟨B+1+1,0,none⟩=false:=by
 have hsz:=h.size
 have h1:=h.hga
 have h2:=h.hg
 have hgl:=h.row.lt
 have zs1:=xIW wr o1
 have zs3:=xIW w3 o3
 have q:w4.heap[B+1+1]? =wr.heap[B+1+1]? :=
  (g4.block _ (by omega) (by simp;omega)).trans ((xKd (by omega)).trans ((g3.block _ (by omega) (by simp;omega)).trans (xKd (by omega))))
 constructor
 ·simp only [World.cell?,q,h.box]
  rfl
 ·simp [World.frozen?,q,h.box]
end Go.Ab
end
section
namespace Go.Ab
open Go.Lib Go.Extern Go.Proofs Go.Shelf Go.RowKit
variable [Inhabited Lb]
theorem vG9{P:Program}{ρ:Ren}(L:LaysGg.n6 P ρ)(t e:TypeId)(i ie:TypeInfo)(hi:P.info? t=some i)(hd:i.desc= .slice e)(hpk:P.packed t=false)(hie:P.info? e=some ie)(ke:Nat)
 (hke:∀w,(Extern.Rtype.kind e).run P w= .ok ke w) (hnp:ie.hasPointers=false) (hby:ie.bytes=16) (f1 f2 f lf:Nat) (hf1:P.funcs.findIdx? (·.name== "internal/reflectlite" ++ ".Swapper$1")=some f1)
 (hf2:P.funcs.findIdx? (·.name== "internal/reflectlite" ++ ".Swapper$2")=some f2) (hf:P.funcs.findIdx? (·.name== "internal/reflectlite" ++ ".Swapper$9")=some f)
 (hpdq:∀xs:List Org,2≤xs.length→xs.length≤1000000000000→AbsCalls P (ρ.f 14) [.val (.v true [.clo lf [gi 4],.swp f 0 (typeHandle P e) (gi 4)]),.val (.v false [.int .i64 0]),.val (.v false [.int .i64 xs.length]),.val (.v false [.int .i64 (Lib.bitLen xs.length)]),.gbox [.sl (.lnt 0) .org xs]]
   ⟨.tup [],[[.sl (.lnt 0) .org (xs.mergeSort fun x y=> !olt y x)]],[]⟩)
 {w:World} {bo br cap:Nat} {ty:TypeId} {xs:List Org} (hlen:xs.length≤1000000000000) (hbo:w.heap[bo]? =some (.cells #[.slice (some ⟨br,0,none⟩) xs.length cap] ty (0,0))) (hbr:OrgRow w br cap xs) (hne:bo≠br)
 (hbase:∀x∈zH7,x.1<w.heap.size∧x.1≠bo∧x.1≠br∧w.heap[x.1]? =some x.2):
 Calls P (ρ.f 6) #[.iface t (.slice (some ⟨br,0,none⟩) xs.length cap),.func (.func lf) #[] #[.pointer (some ⟨bo,0,none⟩)]] w fun en w' =>en= .returned (.tuple #[])∧Sorted w bo br cap xs (xs.mergeSort fun x y=> !olt y x) w' :=by
 by_cases h2:2≤xs.length
 ·exact xPt L t e i ie hi hd hpk hie ke hke hnp hby f lf hf (by simp) h2 (by omega) (hpdq xs h2 hlen) hbo hbr hne hbase
 ·have hn:xs.length≤1:=by omega
  have hms:(xs.mergeSort fun x y=> !olt y x)=xs:=by
   match xs,hn with
   | [],_=>simp
   | [a],_=>simp
  rw [hms]
  have hfi:∃f0,P.funcs.findIdx? (·.name== "internal/reflectlite" ++ ".Swapper$" ++toString (swapperK xs.length ie ke))=some f0:=by
   match h:xs.length,hn with
   |0,_=>exact⟨f1,by rw [show swapperK 0 ie ke=1 from rfl];exact hf1⟩
   |1,_=>exact⟨f2,by rw [show swapperK 1 ie ke=2 from rfl];exact hf2⟩
  obtain⟨f0,hf0⟩:=hfi
  refine(Any.sort_Slice_tiny L t e i ie hi hd hpk hie ke hke (some ⟨br,0,none⟩) xs.length cap hn f0 hf0 (.func lf) #[] #[.pointer (some ⟨bo,0,none⟩)] w).mono ?_
  rintro en w' ⟨rfl,os,rfl⟩
  have hbol:bo<w.heap.size:=(Array.getElem?_eq_some_iff.1 hbo).1
  have hbrl:br<w.heap.size:=by
   obtain⟨_,cs,ty,lo,hi,h,_⟩:=hbr
   exact(Array.getElem?_eq_some_iff.1 h).1
  refine⟨rfl,rfl,rfl,rfl,by rw [Sort.size_grow];omega,fun b hb _ _=>Sort.heap_grow_old _ _ hb,⟨ty,(Sort.heap_grow_old _ _ hbol).trans hbo⟩,?_⟩
  obtain⟨h1,cs,ty',lo,hi',h3,h4⟩:=hbr
  exact⟨h1,cs,ty',lo,hi',(Sort.heap_grow_old _ _ hbrl).trans h3,h4⟩
theorem vCm{w:World}{ok:List (Nat×Nat)→Nat→Nat→Prop}{q:List (Nat×Nat)→Value→Nat→Prop}{x:Org}{y:Value}:∀ {k:Nat} {hk:k<(Ty.org.toD x).length},RdP w ok q y ((Ty.org.toD x)[k])→y=(zAu x)[k]'hk
 |0,_,h=>by simp only [Ty.toD,List.getElem_cons_zero] at h;cases h;rfl
 |1,_,h=>by simp only [Ty.toD,List.getElem_cons_succ,List.getElem_cons_zero] at h;cases h;rfl
 |k+2,hk,_=>absurd hk (by show ¬k+2<2;omega)
theorem xUU{E:Env}{pl:Pl}{c:Nat}{v:Value}{os:List Org}(h:RdP E.w (okF E pl c .ro) (qF E pl c .ro) v (.sl 2 (os.map Ty.org.toD))):RowIn E.w v os:=by
 by_cases hx:os=[]
 ·subst hx
  obtain⟨ad,cap,rfl,_⟩:=RdP.shape h
  exact⟨ad,cap,rfl,.inl rfl⟩
 ·obtain⟨b,off,cap,rfl,hcap,hrl,hq,u,hcl,hk⟩:=RdP.cells h (by simpa using hx)
  refine⟨some ⟨b,off,none⟩,cap,by rw [List.length_map],.inr ⟨_,rfl,?_,fun j x hj=> ?_⟩⟩
  ·have hpos:0<(os.map Ty.org.toD).length:=by
    cases os with
    |nil=>exact absurd rfl hx
    |cons _ _=>simp
   have h0:=(hcl 0 0 hpos (by decide)).1
   by_cases hlt:b<E.w.heap.size
   ·exact hlt
   ·simp [World.cell?,Array.getElem?_eq_none (Nat.le_of_not_lt hlt)] at h0
  ·have hj2:j<(orgs os).length:=(List.getElem?_eq_some_iff.1 hj).1
   rw [xOE] at hj2
   have e:j=j / 2*2+j % 2:=by omega
   have hm:j / 2<os.length:=by omega
   have hk2:j % 2<2:=Nat.mod_lt _ (by decide)
   have h1:=xPo os (j / 2) hm (j % 2) hk2
   rw [←e,hj] at h1
   cases h1
   have g1:=(hcl (j / 2) (j % 2) (by simpa using hm) hk2).1
   have hr:((os.map Ty.org.toD)[j / 2]'(by simpa using hm))=Ty.org.toD os[j / 2]:=by rw [List.getElem_map]
   have g2:=hk (j / 2) (j % 2) (by simpa using hm) (by rw [hr];exact hk2)
   have ha:(⟨b,off,none⟩:Addr).add j=⟨b,off+(j / 2)*2+j % 2,none⟩:=by
    rw [show off+j / 2*2+j % 2=off+j by omega]
    unfold Addr.add
    split
    ·rename_i h0;rw [h0];rfl
    ·rfl
   rw [ha,g1]
   simp only [hr] at g2
   exact congrArg some (vCm g2)
theorem xWa{P:Program}{f:FuncId}(hf:∀args w,(callFunc f args).run P w= .ok (.enter f args) w)
 (hc:∀(xs ys:List Org) (u v:Value) (w:World),RowIn w u xs→RowIn w v ys→xs.length+ys.length≤1000000000000→(∀x∈zH7,x.1<w.heap.size∧w.heap[x.1]? =some x.2)→
   Calls P f #[u,v] w fun e w' =>∃br cap,e= .returned (.slice (some ⟨br,0,none⟩) (zJc xs ys).length cap)∧Below w.heap.size w w' ∧w.heap.size≤br∧OrgRow w' br cap (zJc xs ys))
 {xs ys zs:List Org} (h:zJr xs ys=some zs):AbsCalls P f [.val (.v false [.sl .ro .org xs]),.val (.v false [.sl .ro .org ys])] ⟨.v false [.sl .own .org zs],[],[]⟩:=by
 unfold zJr at h
 split at h
 case isFalse=>cases h
 rename_i hlen
 cases h
 refine AbsCalls.of_enter hf fun E args hE hB hA=> ?_
 match args,hA with
 |⟨[v1,v2]⟩,hA=>
  obtain⟨⟨hv1,_⟩,⟨hv2,_⟩,_⟩:=hA
  refine(hc xs ys v1 v2 E.w (xUU hv1) (xUU hv2) hlen fun x hx=>⟨(hB x hx).1,(hB x hx).2.2.1⟩).mono ?_
  rintro e w' ⟨br,cap,rfl,hb,hbr,hrow⟩
  generalize zJc xs ys=zs at hrow
  have hbl:br<w'.heap.size:=by
   obtain⟨_,cs,ty,lo,hi,h,_⟩:=hrow
   exact(Array.getElem?_eq_some_iff.1 h).1
  have h0:=hE.new br hbr
  let E' :Env:= { w:=w',hw:=fun b=>if b=br then zs.length*2 else E.hw b,ow:=fun b=>if b=br then some (.arr (.h 0) 0 []) else(E.ow b).bind (fun l=>if l= .arr (.h 0) 0 [] then none else some l),bx:=E.bx,hdr:=fun _=> .slice (some ⟨br,0,none⟩) zs.length cap }
  have hrd:=OrgRow.rd (E:=E') (pl:= .h 0) (c:=0) hrow (if_pos rfl) (if_pos rfl) 0 rfl
  refine⟨_,{ E' with hdr:=E.hdr },rfl,rfl,?_⟩
  refine { os:=hb.os,tape:=hb.tape,output:=hb.output,size:=hb.size,hdr:=rfl,old:=fun b hlt h1=> ?_,env:=⟨fun b hbb=> ?_,fun b b' l g1 g2=> ?_,fun b s h=> ?_⟩,res:= ?_,outs:=trivial,lents:=trivial,bx:=fun _ _=>rfl }
  ·have e:b≠br:=by omega
   exact⟨hb.block b hlt,by simp [E',e],by simp [E',e,h1]⟩
  ·have hbb:w'.heap.size≤b:=hbb
   have e:b≠br:=by omega
   have:=hE.new b (by have:=hb.size;omega)
   exact⟨by simp [E',e,this.1],by simp [E',e,this.2]⟩
  ·simp only [E'] at g1 g2
   split at g1 <;>split at g2
   ·rename_i e1 e2;rw [e1,e2]
   ·cases g1
    simp only [Option.bind_eq_some_iff] at g2
    obtain⟨l2,_,c2⟩:=g2
    split at c2
    ·cases c2
    ·rename_i hne;cases c2;exact absurd rfl hne
   ·cases g2
    simp only [Option.bind_eq_some_iff] at g1
    obtain⟨l2,_,c2⟩:=g1
    split at c2
    ·cases c2
    ·rename_i hne;cases c2;exact absurd rfl hne
   ·simp only [Option.bind_eq_some_iff] at g1 g2
    obtain⟨l1,a1,c1⟩:=g1
    obtain⟨l2,a2,c2⟩:=g2
    split at c1
    ·cases c1
    ·split at c2
     ·cases c2
     ·cases c1;cases c2;exact hE.inj _ _ _ a1 a2
  ·simp only [E'] at h ⊢
   split at h
   ·cases h
   ·rename_i hne
    rw [if_neg hne]
    rw [Option.bind_eq_some_iff] at h
    obtain⟨l,a1,c1⟩:=h
    split at c1
    ·cases c1
    ·cases c1;exact hE.boxhw b s a1
  ·refine ResAt.of ?_ rfl
   refine⟨?_,trivial⟩
   exact RdP.mono hrd (fun p b o ho=>⟨rfl,ho⟩) (fun p v sz ht=>ht.1)
 |⟨[]⟩,hA=>exact hA.elim
 |⟨[_]⟩,hA=>exact hA.2.elim
 |⟨_::_::_::_⟩,hA=>exact hA.2.2.elim
end Go.Ab
end
section
namespace Go.Proofs
open Go.Shelf
def Tryz.lays125_ren:Go.Shelf.Ren:=⟨fun |125=>106|128=>142|129=>143|n=>n,fun |46=>121|3=>3|51=>140|53=>142|4=>4|5=>5|9=>9|n=>n,fun |n=>n⟩
theorem Tryz.lays125:Go.Proofs.Lays.n125 Tryz.prog Tryz.lays125_ren:= {
 mixed:=by kernel_rfl
 f125:=Tryz.func106.trans (congrArg some (by kernel_rfl))
 f128:=Tryz.func142.trans (congrArg some (by kernel_rfl))
 f129:=Tryz.func143.trans (congrArg some (by kernel_rfl))
 t3:=Tryz.underlying3
 a3:=Tryz.isAgg3
 z3:=Tryz.sizeOf3
 v3:=Tryz.zeroValue3
 t4:=Tryz.underlying4
 a4:=Tryz.isAgg4
 z4:=Tryz.sizeOf4
 v4:=Tryz.zeroValue4
 t5:=Tryz.underlying5
 a5:=Tryz.isAgg5
 z5:=Tryz.sizeOf5
 v5:=Tryz.zeroValue5
 t9:=Tryz.underlying9
 a9:=Tryz.isAgg9
 z9:=Tryz.sizeOf9
 v9:=Tryz.zeroValue9
 t46:=Tryz.underlying121
 a46:=Tryz.isAgg121
 z46:=Tryz.sizeOf121
 v46:=Tryz.zeroValue121
 t51:=Tryz.underlying140
 a51:=Tryz.isAgg140
 z51:=Tryz.sizeOf140
 v51:=Tryz.zeroValue140
 t53:=Tryz.underlying142
 a53:=Tryz.isAgg142
 z53:=Tryz.sizeOf142
 v53:=Tryz.zeroValue142 }
def Tryz.laysGg6_ren:Go.Shelf.Ren:=⟨fun |6=>63|10=>103|11=>104|12=>105|13=>106|14=>107|24=>142|25=>143|26=>144|27=>145|28=>146|29=>147|30=>148|31=>149|32=>150|33=>151|34=>166|35=>167|36=>168|37=>169|38=>170|39=>184|n=>n,fun |20=>20|26=>83|35=>115|0=>0|37=>117|3=>3|41=>121|44=>124|49=>140|51=>142|4=>4|54=>145|53=>144|58=>149|5=>5|9=>9|60=>157|64=>161|66=>171|67=>172|17=>17|32=>112|33=>113|82=>194|12=>12|75=>187|76=>188|77=>189|78=>190|79=>191|80=>192|n=>n,fun |n=>n⟩
theorem Tryz.laysGg6:Go.Proofs.LaysGg.n6 Tryz.prog Tryz.laysGg6_ren:= {
 mixed:=by kernel_rfl
 f6:=Tryz.func63.trans (congrArg some (by kernel_rfl))
 f10:=Tryz.func103.trans (congrArg some (by kernel_rfl))
 f11:=Tryz.func104.trans (congrArg some (by kernel_rfl))
 f12:=Tryz.func105.trans (congrArg some (by kernel_rfl))
 f13:=Tryz.func106.trans (congrArg some (by kernel_rfl))
 f14:=Tryz.func107.trans (congrArg some (by kernel_rfl))
 f24:=Tryz.func142.trans (congrArg some (by kernel_rfl))
 f25:=Tryz.func143.trans (congrArg some (by kernel_rfl))
 f26:=Tryz.func144.trans (congrArg some (by kernel_rfl))
 f27:=Tryz.func145.trans (congrArg some (by kernel_rfl))
 f28:=Tryz.func146.trans (congrArg some (by kernel_rfl))
 f29:=Tryz.func147.trans (congrArg some (by kernel_rfl))
 f30:=Tryz.func148.trans (congrArg some (by kernel_rfl))
 f31:=Tryz.func149.trans (congrArg some (by kernel_rfl))
 f32:=Tryz.func150.trans (congrArg some (by kernel_rfl))
 f33:=Tryz.func151.trans (congrArg some (by kernel_rfl))
 f34:=Tryz.func166.trans (congrArg some (by kernel_rfl))
 f35:=Tryz.func167.trans (congrArg some (by kernel_rfl))
 f36:=Tryz.func168.trans (congrArg some (by kernel_rfl))
 f37:=Tryz.func169.trans (congrArg some (by kernel_rfl))
 f38:=Tryz.func170.trans (congrArg some (by kernel_rfl))
 f39:=Tryz.func184.trans (congrArg some (by kernel_rfl))
 t0:=Tryz.underlying0
 a0:=Tryz.isAgg0
 z0:=Tryz.sizeOf0
 v0:=Tryz.zeroValue0
 i0:=by kernel_rfl
 t3:=Tryz.underlying3
 a3:=Tryz.isAgg3
 z3:=Tryz.sizeOf3
 v3:=Tryz.zeroValue3
 i3:=by kernel_rfl
 t4:=Tryz.underlying4
 a4:=Tryz.isAgg4
 z4:=Tryz.sizeOf4
 v4:=Tryz.zeroValue4
 i4:=by kernel_rfl
 t5:=Tryz.underlying5
 a5:=Tryz.isAgg5
 z5:=Tryz.sizeOf5
 v5:=Tryz.zeroValue5
 i5:=by kernel_rfl
 t9:=Tryz.underlying9
 a9:=Tryz.isAgg9
 z9:=Tryz.sizeOf9
 v9:=Tryz.zeroValue9
 i9:=by kernel_rfl
 t12:=Tryz.underlying12
 a12:=Tryz.isAgg12
 z12:=Tryz.sizeOf12
 v12:=Tryz.zeroValue12
 i12:=by kernel_rfl
 t17:=Tryz.underlying17
 a17:=Tryz.isAgg17
 z17:=Tryz.sizeOf17
 v17:=Tryz.zeroValue17
 i17:=by kernel_rfl
 t20:=Tryz.underlying20
 a20:=Tryz.isAgg20
 z20:=Tryz.sizeOf20
 v20:=Tryz.zeroValue20
 i20:=by kernel_rfl
 t26:=Tryz.underlying83
 a26:=Tryz.isAgg83
 z26:=Tryz.sizeOf83
 v26:=Tryz.zeroValue83
 i26:=by kernel_rfl
 t32:=Tryz.underlying112
 a32:=Tryz.isAgg112
 z32:=Tryz.sizeOf112
 v32:=Tryz.zeroValue112
 i32:=by kernel_rfl
 t33:=Tryz.underlying113
 a33:=Tryz.isAgg113
 z33:=Tryz.sizeOf113
 v33:=Tryz.zeroValue113
 i33:=by kernel_rfl
 t35:=Tryz.underlying115
 a35:=Tryz.isAgg115
 z35:=Tryz.sizeOf115
 v35:=Tryz.zeroValue115
 i35:=by kernel_rfl
 t37:=Tryz.underlying117
 a37:=Tryz.isAgg117
 z37:=Tryz.sizeOf117
 v37:=Tryz.zeroValue117
 i37:=by kernel_rfl
 t41:=Tryz.underlying121
 a41:=Tryz.isAgg121
 z41:=Tryz.sizeOf121
 v41:=Tryz.zeroValue121
 i41:=by kernel_rfl
 t44:=Tryz.underlying124
 a44:=Tryz.isAgg124
 z44:=Tryz.sizeOf124
 v44:=Tryz.zeroValue124
 i44:=by kernel_rfl
 t49:=Tryz.underlying140
 a49:=Tryz.isAgg140
 z49:=Tryz.sizeOf140
 v49:=Tryz.zeroValue140
 i49:=by kernel_rfl
 t51:=Tryz.underlying142
 a51:=Tryz.isAgg142
 z51:=Tryz.sizeOf142
 v51:=Tryz.zeroValue142
 i51:=by kernel_rfl
 t53:=Tryz.underlying144
 a53:=Tryz.isAgg144
 z53:=Tryz.sizeOf144
 v53:=Tryz.zeroValue144
 i53:=by kernel_rfl
 t54:=Tryz.underlying145
 a54:=Tryz.isAgg145
 z54:=Tryz.sizeOf145
 v54:=Tryz.zeroValue145
 i54:=by kernel_rfl
 t58:=Tryz.underlying149
 a58:=Tryz.isAgg149
 z58:=Tryz.sizeOf149
 v58:=Tryz.zeroValue149
 i58:=by kernel_rfl
 t60:=Tryz.underlying157
 a60:=Tryz.isAgg157
 z60:=Tryz.sizeOf157
 v60:=Tryz.zeroValue157
 i60:=by kernel_rfl
 t64:=Tryz.underlying161
 a64:=Tryz.isAgg161
 z64:=Tryz.sizeOf161
 v64:=Tryz.zeroValue161
 i64:=by kernel_rfl
 t66:=Tryz.underlying171
 a66:=Tryz.isAgg171
 z66:=Tryz.sizeOf171
 v66:=Tryz.zeroValue171
 i66:=by kernel_rfl
 t67:=Tryz.underlying172
 a67:=Tryz.isAgg172
 z67:=Tryz.sizeOf172
 v67:=Tryz.zeroValue172
 i67:=by kernel_rfl
 t75:=Tryz.underlying187
 a75:=Tryz.isAgg187
 z75:=Tryz.sizeOf187
 v75:=Tryz.zeroValue187
 i75:=by kernel_rfl
 t76:=Tryz.underlying188
 a76:=Tryz.isAgg188
 z76:=Tryz.sizeOf188
 v76:=Tryz.zeroValue188
 i76:=by kernel_rfl
 t77:=Tryz.underlying189
 a77:=Tryz.isAgg189
 z77:=Tryz.sizeOf189
 v77:=Tryz.zeroValue189
 i77:=by kernel_rfl
 t78:=Tryz.underlying190
 a78:=Tryz.isAgg190
 z78:=Tryz.sizeOf190
 v78:=Tryz.zeroValue190
 i78:=by kernel_rfl
 t79:=Tryz.underlying191
 a79:=Tryz.isAgg191
 z79:=Tryz.sizeOf191
 v79:=Tryz.zeroValue191
 i79:=by kernel_rfl
 t80:=Tryz.underlying192
 a80:=Tryz.isAgg192
 z80:=Tryz.sizeOf192
 v80:=Tryz.zeroValue192
 i80:=by kernel_rfl
 t82:=Tryz.underlying194
 a82:=Tryz.isAgg194
 z82:=Tryz.sizeOf194
 v82:=Tryz.zeroValue194
 i82:=by kernel_rfl }
end Go.Proofs
end
section
open Go.Proofs
namespace Go.Ab.T
variable [Inhabited Lb]
abbrev AbC(f:FuncId)(a:List Arg)(r:CallO):Prop:=AbsCalls Tryz.prog f a r
abbrev W(x:Int):Int:=IntKind.i64.wrap x
abbrev Ln{α:Type}(l:List α):Nat:=List.length l
abbrev tN(x:Int):Nat:=Int.toNat x
abbrev gD{α:Type}(l:List α)(i:Nat)(d:α):α:=List.getD l i d
abbrev iY(b:Bool):Prop:=b=true
abbrev iN(b:Bool):Prop:=b=false
abbrev dc(p:Prop) [Decidable p]:Bool:=decide p
abbrev vd:Val:=Ty.val.dflt
abbrev rd:Rowd:=Ty.row.dflt
end Go.Ab.T
end
section
open Go.Proofs
namespace Go.Ab.T
set_option maxRecDepth 100000
variable [Inhabited Lb]
def tt:TT:=[(3,{ zero:=some [.int .i64 0],ik:=some .i64 }),
 (4,{ zero:=some [.bool false],isBool:=true }),
 (5,{ zero:=some [.int .u8 0],ik:=some .u8 }),
 (9,{ zero:=some [.str []],isStr:=true }),
 (22,{ zero:=some [.sl .own .val []],elem:=some (26,.val) }),
 (23,{ zero:=some [.sl .own .str []],elem:=some (9,.str) }),
 (24,{ zero:=some [.sl .own .row []],elem:=some (99,.row) }),
 (26,{ sz:=7,agg:=true,zero:=some [.int .i64 0,.int .i64 0,.int .i64 0,.str [],.sl .own .val [],.sl .own .str [],.sl .own .row []],offs:=[0,1,2,3,4,5,6],fsz:=[1,1,1,1,1,1,1] }),
 (28,{ zero:=some [.sl .own .val []],elem:=some (31,.val) }),
 (29,{ zero:=some [.sl .own .row []],elem:=some (45,.row) }),
 (31,{ sz:=7,agg:=true,zero:=some [.int .i64 0,.int .i64 0,.int .i64 0,.str [],.sl .own .val [],.sl .own .str [],.sl .own .row []],offs:=[0,1,2,3,4,5,6],fsz:=[1,1,1,1,1,1,1] }),
 (37,{ zero:=some [.sl .own .byte []],elem:=some (5,.byte) }),
 (42,{ zero:=some [.sl .own .int []],elem:=some (3,.int) }),
 (43,{ zero:=some [.sl .own .org []],elem:=some (80,.org) }),
 (45,{ sz:=2,agg:=true,zero:=some [.sl .own .int [],.sl .own .org []],offs:=[0,1],fsz:=[1,1] }),
 (80,{ sz:=2,agg:=true,zero:=some [.int .i64 0,.int .i64 0],offs:=[0,1],fsz:=[1,1],same:=true }),
 (83,{ zero:=some [.val .nilFunc],isFn:=true }),
 (97,{ zero:=some [.sl .own .org []],elem:=some (155,.org) }),
 (99,{ sz:=2,agg:=true,zero:=some [.sl .own .int [],.sl .own .org []],offs:=[0,1],fsz:=[1,1] }),
 (109,{ sz:=3,agg:=true,zero:=some [.sl .own .byte [],.int .i64 0,.int .i64 0],offs:=[0,1,2],fsz:=[1,1,1] }),
 (117,{ zero:=some [.val .nilFunc],isFn:=true }),
 (121,{ zero:=some [.int .u64 0],ik:=some .u64 }),
 (124,{ sz:=2,agg:=true,zero:=some [.val .nilFunc,.val .nilFunc],offs:=[0,1],fsz:=[1,1] }),
 (142,{ zero:=some [.int .u64 0],ik:=some .u64 }),
 (144,{ zero:=some [.int .i64 0],ik:=some .i64 }),
 (155,{ sz:=2,agg:=true,zero:=some [.int .i64 0,.int .i64 0],offs:=[0,1],fsz:=[1,1],same:=true }),
 (157,{ zero:=some [.int .u64 0],ik:=some .u64 })]
theorem ttok:TTok Tryz.prog tt:=zJj (by kernel_rfl)
theorem mix:Tryz.prog.follows .mixedOrders=true:=by kernel_rfl
def F:Bool:=false
def cl(r:CallO):CallO:=⟨r.res,r.outs,[.clo 0 []]⟩
def Y:Bool:=true
noncomputable def rE (I:Info) (ag:List Arg) (bs:List Bool) (cs:List CallO):Option Res:=run tt (AbsCalls Tryz.prog) I 3000 false [.code I.body] ⟨zA9 0 ag,bs,cs,[]⟩
noncomputable def rS (k:Nat) (I:Info) (σ:St) (bs:List Bool) (cs:List CallO):Option Res:=run tt (AbsCalls Tryz.prog) I 3000 true (stkAt k I.body) ⟨σ,bs,cs,[]⟩
noncomputable def dn (r:CallO) (ob:List Prop):Option Res:=some (.done r ob)
noncomputable def st (k:Nat) (I:Info) (σ:St) (ob:List Prop):Option Res:=some (.stop (stkAt k I.body) σ ob)
def RE(fn:Func)(I:Info)(ag:List Arg)(r:CallO):Prop:=Reach Tryz.prog fn I [.code I.body] (zA9 0 ag) r
def RS(fn:Func)(I:Info)(k:Nat)(σ:St)(r:CallO):Prop:=Reach Tryz.prog fn I (stkAt k I.body) σ r
section
variable {ρ:Type} {f:FuncId} {fn:Func} {I:Info} {ag:List Arg} {bs:List Bool} {cs:List CallO} {k j:Nat} {σ σ' :St} {ob:List Prop} {ro:ρ→CallO} {x r:ρ} {q:CallO}
theorem dE(e:some x=some r)(hf:FnOk Tryz.prog f fn I)(h:rE I ag bs cs=dn (ro x) ob)(o:∀p∈ob,p):RE fn I ag (ro r):=by
 cases e;exact Reach.done ttok mix hf h o
theorem dS(e:some x=some r)(hf:FnOk Tryz.prog f fn I)(h:rS k I σ bs cs=dn (ro x) ob)(o:∀p∈ob,p):RS fn I k σ (ro r):=by
 cases e;exact Reach.done ttok mix hf h o
theorem tE(hf:FnOk Tryz.prog f fn I)(h:rE I ag bs cs=st k I σ ob)(o:∀p∈ob,p)(t:RS fn I k σ q):RE fn I ag q:=Reach.stop ttok mix hf h o t
theorem tS(hf:FnOk Tryz.prog f fn I)(h:rS j I σ' bs cs=st k I σ ob)(o:∀p∈ob,p)(t:RS fn I k σ q):RS fn I j σ' q:=Reach.stop ttok mix hf h o t
end
theorem oc{p:Prop}{l:List Prop}(h:p)(t:∀q∈l,q):∀q∈p::l,q:=zJi h t
theorem on:∀q∈([]:List Prop),q:=zJm
theorem oc2{p0 p1:Prop}{l:List Prop}(h0:p0)(h1:p1)(t:∀q∈l,q):∀q∈p0::p1::l,q:=oc h0 (oc h1 t)
theorem oc3{p0 p1 p2:Prop}{l:List Prop}(h0:p0)(h1:p1)(h2:p2)(t:∀q∈l,q):∀q∈p0::p1::p2::l,q:=oc h0 (oc2 h1 h2 t)
theorem oc4{p0 p1 p2 p3:Prop}{l:List Prop}(h0:p0)(h1:p1)(h2:p2)(h3:p3)(t:∀q∈l,q):∀q∈p0::p1::p2::p3::l,q:=oc h0 (oc3 h1 h2 h3 t)
theorem oc5{p0 p1 p2 p3 p4:Prop}{l:List Prop}(h0:p0)(h1:p1)(h2:p2)(h3:p3)(h4:p4)(t:∀q∈l,q):∀q∈p0::p1::p2::p3::p4::l,q:=oc h0 (oc4 h1 h2 h3 h4 t)
theorem oc6{p0 p1 p2 p3 p4 p5:Prop}{l:List Prop}(h0:p0)(h1:p1)(h2:p2)(h3:p3)(h4:p4)(h5:p5)(t:∀q∈l,q):∀q∈p0::p1::p2::p3::p4::p5::l,q:=oc h0 (oc5 h1 h2 h3 h4 h5 t)
theorem oc7{p0 p1 p2 p3 p4 p5 p6:Prop}{l:List Prop}(h0:p0)(h1:p1)(h2:p2)(h3:p3)(h4:p4)(h5:p5)(h6:p6)(t:∀q∈l,q):∀q∈p0::p1::p2::p3::p4::p5::p6::l,q:=oc h0 (oc6 h1 h2 h3 h4 h5 h6 t)
theorem oc8{p0 p1 p2 p3 p4 p5 p6 p7:Prop}{l:List Prop}(h0:p0)(h1:p1)(h2:p2)(h3:p3)(h4:p4)(h5:p5)(h6:p6)(h7:p7)(t:∀q∈l,q):∀q∈p0::p1::p2::p3::p4::p5::p6::p7::l,q:=oc h0 (oc7 h1 h2 h3 h4 h5 h6 h7 t)
theorem oc9{p0 p1 p2 p3 p4 p5 p6 p7 p8:Prop}{l:List Prop}(h0:p0)(h1:p1)(h2:p2)(h3:p3)(h4:p4)(h5:p5)(h6:p6)(h7:p7)(h8:p8)(t:∀q∈l,q):∀q∈p0::p1::p2::p3::p4::p5::p6::p7::p8::l,q:=oc h0 (oc8 h1 h2 h3 h4 h5 h6 h7 h8 t)
theorem oc10{p0 p1 p2 p3 p4 p5 p6 p7 p8 p9:Prop}{l:List Prop}(h0:p0)(h1:p1)(h2:p2)(h3:p3)(h4:p4)(h5:p5)(h6:p6)(h7:p7)(h8:p8)(h9:p9)(t:∀q∈l,q):∀q∈p0::p1::p2::p3::p4::p5::p6::p7::p8::p9::l,q:=oc h0 (oc9 h1 h2 h3 h4 h5 h6 h7 h8 h9 t)
theorem oc11{p0 p1 p2 p3 p4 p5 p6 p7 p8 p9 p10:Prop}{l:List Prop}(h0:p0)(h1:p1)(h2:p2)(h3:p3)(h4:p4)(h5:p5)(h6:p6)(h7:p7)(h8:p8)(h9:p9)(h10:p10)(t:∀q∈l,q):∀q∈p0::p1::p2::p3::p4::p5::p6::p7::p8::p9::p10::l,q:=oc h0 (oc10 h1 h2 h3 h4 h5 h6 h7 h8 h9 h10 t)
theorem oc12{p0 p1 p2 p3 p4 p5 p6 p7 p8 p9 p10 p11:Prop}{l:List Prop}(h0:p0)(h1:p1)(h2:p2)(h3:p3)(h4:p4)(h5:p5)(h6:p6)(h7:p7)(h8:p8)(h9:p9)(h10:p10)(h11:p11)(t:∀q∈l,q):∀q∈p0::p1::p2::p3::p4::p5::p6::p7::p8::p9::p10::p11::l,q:=oc h0 (oc11 h1 h2 h3 h4 h5 h6 h7 h8 h9 h10 h11 t)
theorem cE{α:Type}{C:Prop}{b:Bool}{x y:Option α}{r:α}(h:cond b x y=some r)(f:b=true→x=some r→C)(g:b=false→y=some r→C):C:=(zJg h).elim (fun h=>f h.1 h.2) fun h=>g h.1 h.2
theorem bE{α β:Type}{C:Prop}{o:Option α}{f:α→Option β}{r:β}(h:Option.bind o f=some r)(g:∀a,o=some a→f a=some r→C):C:=(zJe h).elim fun a h=>g a h.1 h.2
theorem iE{α:Type}{C p:Prop} [Decidable p]{x:Option α}{r:α}(h:(if p then x else none)=some r)(g:p→x=some r→C):C:=(zJk h).elim g
theorem nE{α:Type}{C:Prop}{r:α}(h:none=some r):C:=nomatch h
noncomputable def I168:Info:= { body:=(Tryz.f168.body).getD .skip,nt:=33,results:=[.tmp 2],keep:=[0,4,1],live:=[],modes:=[],ext:=[0] }
theorem vIt:FnOk Tryz.prog 168 Tryz.f168 I168:=by refine⟨Tryz.func168,?_,?_,?_,?_⟩<;>kernel_rfl
abbrev xWo(v0:Int):=xorI .u64 (xorI .u64 (xorI .u64 v0 (IntKind.u64.wrap (v0*2 ^ (tN 13)))) (Int.fdiv (xorI .u64 v0 (IntKind.u64.wrap (v0*2 ^ (tN 13)))) ((2:Int) ^ (tN 7)))) (IntKind.u64.wrap ((xorI .u64 (xorI .u64 v0 (IntKind.u64.wrap (v0*2 ^ (tN 13)))) (Int.fdiv (xorI .u64 v0 (IntKind.u64.wrap (v0*2 ^ (tN 13)))) ((2:Int) ^ (tN 7))))*2 ^ (tN 17)))
def xZS(a0):rE I168 (xFv a0) [] []=dn (xD0 ((xWo a0),(xWo a0))) [(0:Int)≤13∧(13:Int)<64,(0:Int)≤7∧(7:Int)<64,(0:Int)≤17∧(17:Int)<64]:=by kernel_rfl
theorem vH7{N:Nat}:∀a0 r,xGF N a0=some r→RE Tryz.f168 I168 (xFv a0) (xD0 r):=fun a0 r h=>dE h vIt (xZS a0) (oc3 (by decide) (by decide) (by decide) on)
theorem xJQ{N:Nat}{a0:Int}{r:Int×Int}(h:xGF N  a0=some r):AbC 168 (xFv a0) (xD0 r):=
 AbsCalls.of_reach vIt rfl rfl rfl (jL rfl) (vH7 a0 r h)
theorem xOw{N:Nat}{a0 r:Int}(h:xLC N a0=some r):AbC 106 (xLQ a0) (xJX r):=
 zII (xQQ Tryz.lays125) (Any.bits_Len Tryz.lays125) h
noncomputable def I167:Info:= { body:=(Tryz.f167.body).getD .skip,nt:=10,results:=[.tmp 2],keep:=[0,4,6],live:=[],modes:=[(2,[(0,.take,false)])] }
theorem vIs:FnOk Tryz.prog 167 Tryz.f167 I167:=by refine⟨Tryz.func167,?_,?_,?_,?_⟩<;>kernel_rfl
def xZR(a0 r1):rE I167 (xGs a0) [] [xJX r1]=dn (xE3 (IntKind.u64.wrap (1*2 ^ (tN (IntKind.u64.wrap (r1)))))) [AbC 106 (xLQ (IntKind.u64.wrap (a0))) (xJX r1),(0:Int)≤(IntKind.u64.wrap (r1))∧(IntKind.u64.wrap (r1))<64]:=by kernel_rfl
theorem vH6{N:Nat}:∀a0 r,xGh N a0=some r→RE Tryz.f167 I167 (xGs a0) (xE3 r):=fun a0 r h=>bE h fun r1 h0 h=>iE h fun h1 h=>dE h vIs (xZR a0 r1) (oc2 (xOw h0) h1 on)
theorem xLY{N:Nat}{a0:Int}{r:Int}(h:xGh N  a0=some r):AbC 167 (xGs a0) (xE3 r):=
 AbsCalls.of_reach vIs rfl rfl rfl (jL rfl) (vH6 a0 r h)
theorem xAL{N:Nat}{a0 a1:Int}{a2 r:List Org}(h:xAJ N a0 a1 a2=some r):AbC 141 (xAV a0 a1 a2) (xAu r):=
 zJh (run_callFunc_extern Tryz.func141 (by kernel_rfl) (by kernel_rfl) (by kernel_rfl) (by kernel_rfl)) 80 _ (Option.some_get (by kernel_rfl:(Tryz.prog.info? 80).isSome=true)).symm (by kernel_rfl) Tryz.isAgg80 h
noncomputable def xKM:Info:= { body:=(Tryz.f148.body).getD .skip,nt:=23,results:=[],keep:=[0,2,4,6,12,14,26,2000006,7,2000007],live:=[(3,[6,12,14,2000006,7,2000007])],modes:=[],ext:=[1000003] }
theorem xNd:FnOk Tryz.prog 148 Tryz.f148 xKM:=by refine⟨Tryz.func148,?_,?_,?_,?_⟩<;>kernel_rfl
def xLe(x6 x7:Int)(g003:List Org):St:=[(6,.v false [.ptr 3 0]),(12,.v false [.int .i64 x6]),(14,.v false [.int .i64 x7]),(7,.v true [.clo 64 [1000003],.swp 141 0 (.pointer (some ⟨0,80,none⟩)) 1000003]),(2000007,.v true [.sl (.lnt 0) .org g003])]
abbrev xFn(v0 v1:Int):Prop:=iY (dc (v0<v1))
abbrev xSQ(v0 v1:Int)(v2:List Org)(v3:(List Org)):Prop:=AbC 141 (xAV v0 v1 v2) (xAu v3)
def xTn(x6 x7 g003 r1):rS 3 xKM (xLe x6 x7 g003) [Y] [xAu r1]=st 3 xKM (xLe (W (x6+1)) (W (x7 - 1)) r1) [xFn x6 x7,xSQ x6 x7 g003 r1,2≤Ln g003,Ln r1=Ln g003]:=by kernel_rfl
abbrev xHr(v0 v1:Int):Prop:=iN (dc (v0<v1))
def xTo(x6 x7 g003):rS 3 xKM (xLe x6 x7 g003) [F] []=dn (xBW g003) [xHr x6 x7]:=by kernel_rfl
def xTp(a0 a1 a2):rE xKM (xC9 a0 a1 a2) [] []=st 3 xKM (xLe a0 (W (a1 - 1)) a2) []:=by kernel_rfl
theorem xVn{N:Nat}:∀n x6 x7 g003 r,xBV N n x6 x7 g003=some r→RS Tryz.f148 xKM 3 (xLe x6 x7 g003) (xBW r):=by
 intro n
 induction n with
 |zero=>exact fun _ _ _ _ h=>nE h
 |succ n ih=>
  exact fun x6 x7 g003 r h=>cE h (fun h0 h=>bE h fun r1 h1 h=>iE h fun h2 h=>iE h fun h3 h=>tS xNd (xTn x6 x7 g003 r1) (oc4 h0 (xAL h1) h2 h3 on) (ih _ _ _ _ h)) fun h0 h=>dS h xNd (xTo x6 x7 g003) (oc h0 on)
theorem xVo{N:Nat}:∀a0 a1 a2 r,xCD N a0 a1 a2=some r→RE Tryz.f148 xKM (xC9 a0 a1 a2) (xBW r):=fun a0 a1 a2 r h=>tE xNd (xTp a0 a1 a2) on (xVn _ _ _ _ _ h)
theorem xHL{N:Nat}{a0:Int}{a1:Int}{a2:List Org}{r:(List Org)}(h:xCD N  a0 a1 a2=some r):AbC 148 (xC9 a0 a1 a2) (xBW r):=
 AbsCalls.of_reach xNd rfl rfl rfl (jL rfl) (xVo a0 a1 a2 r h)
noncomputable def xIS:Info:= { body:=(Tryz.f146.body).getD .skip,nt:=54,results:=[],keep:=[0,2,4,6,12,14,16,18,20,30,66,86,2000006,7,15,2000007],live:=[(6,[2,6,12,14,16,18,2000006,7,15,2000007])],modes:=[(8,[(1,.take,false)])],ext:=[1000003] }
theorem xLh:FnOk Tryz.prog 146 Tryz.f146 xIS:=by refine⟨Tryz.func146,?_,?_,?_,?_⟩<;>kernel_rfl
def xJh(x1 x6 x8 x9 b7:Int)(g003:List Org):St:=[(2,.v false [.int .i64 x1]),(6,.v false [.ptr 3 0]),(12,.v false [.int .i64 x6]),(14,.v false [.ptr 7 0]),(16,.v false [.int .u64 x8]),(18,.v false [.int .i64 x9]),(7,.v true [.clo 64 [1000003],.swp 141 0 (.pointer (some ⟨0,80,none⟩)) 1000003]),(15,.v true [.int .u64 b7]),(2000007,.v true [.sl (.lnt 0) .org g003])]
abbrev xUb(v0 v1 v2:Int):=dc (v0≤(W ((W (v1+(W ((W (Int.tdiv v2 4))*2))))+1)))
abbrev xQ9(v0:Int×Int)(v1:Int):=W ((andI .u64 v0.1 (IntKind.u64.wrap (v1 - 1))))
def xS9(x1 x6 x8 x9 b7 g003 r1 r2):rS 6 xIS (xJh x1 x6 x8 x9 b7 g003) [Y,Y] [xD0 r1,xAu r2]=st 6 xIS (xJh x1 x6 x8 (W (x9+1)) r1.2 r2) [4≠(0:Int),iY (xUb x9 x1 x6),AbC 168 (xFv b7) (xD0 r1),iY (dc (((xQ9 r1 x8):Int)≥x6)),AbC 141 (xAV x9 (W (x1+(W ((xQ9 r1 x8) - x6)))) g003) (xAu r2),2≤Ln g003,Ln r2=Ln g003]:=by kernel_rfl
def xTa(x1 x6 x8 x9 b7 g003 r1 r2):rS 6 xIS (xJh x1 x6 x8 x9 b7 g003) [Y,F] [xD0 r1,xAu r2]=st 6 xIS (xJh x1 x6 x8 (W (x9+1)) r1.2 r2) [4≠(0:Int),iY (xUb x9 x1 x6),AbC 168 (xFv b7) (xD0 r1),iN (dc (((xQ9 r1 x8):Int)≥x6)),AbC 141 (xAV x9 (W (x1+(xQ9 r1 x8))) g003) (xAu r2),2≤Ln g003,Ln r2=Ln g003]:=by kernel_rfl
def xTb(x1 x6 x8 x9 b7 g003):rS 6 xIS (xJh x1 x6 x8 x9 b7 g003) [F] []=dn (xBA g003) [4≠(0:Int),iN (xUb x9 x1 x6)]:=by kernel_rfl
abbrev xUx(v0 v1:Int):Prop:=iY (dc ((W (v0 - v1))≥8))
abbrev xNS(v0 v1:Int):=W (v0+(W ((W (Int.tdiv (W (v1 - v0)) 4))*2)))
def xTc(a0 a1 a2 r1):rE xIS (xCm a0 a1 a2) [Y] [xE3 r1]=st 6 xIS (xJh a0 (W (a1 - a0)) r1 (W ((xNS a0 a1) - 1)) (IntKind.u64.wrap ((W (a1 - a0)))) a2) [xUx a1 a0,AbC 167 (xGs (W (a1 - a0))) (xE3 r1),4≠(0:Int)]:=by kernel_rfl
def xTd(a0 a1 a2):rE xIS (xCm a0 a1 a2) [F] []=dn (xBA a2) [iN (dc ((W (a1 - a0))≥8))]:=by kernel_rfl
theorem xVk{N:Nat}:∀n x1 x6 x8 x9 b7 g003 r,xBz N n x1 x6 x8 x9 b7 g003=some r→RS Tryz.f146 xIS 6 (xJh x1 x6 x8 x9 b7 g003) (xBA r):=by
 intro n
 induction n with
 |zero=>exact fun _ _ _ _ _ _ _ h=>nE h
 |succ n ih=>
  exact fun x1 x6 x8 x9 b7 g003 r h=>cE h (fun h1 h=>bE h fun r1 h2 h=>cE h (fun h3 h=>bE h fun r2 h4 h=>iE h fun h5 h=>iE h fun h6 h=>tS xLh (xS9 x1 x6 x8 x9 b7 g003 r1 r2) (oc7 (by decide) h1 (xJQ h2) h3 (xAL h4) h5 h6 on) (ih _ _ _ _ _ _ _ h)) fun h3 h=>bE h fun r2 h4 h=>iE h fun h5 h=>iE h fun h6 h=>tS xLh (xTa x1 x6 x8 x9 b7 g003 r1 r2) (oc7 (by decide) h1 (xJQ h2) h3 (xAL h4) h5 h6 on) (ih _ _ _ _ _ _ _ h)) fun h1 h=>dS h xLh (xTb x1 x6 x8 x9 b7 g003) (oc2 (by decide) h1 on)
theorem xVl{N:Nat}:∀a0 a1 a2 r,xCv N a0 a1 a2=some r→RE Tryz.f146 xIS (xCm a0 a1 a2) (xBA r):=fun a0 a1 a2 r h=>cE h (fun h0 h=>bE h fun r1 h1 h=>tE xLh (xTc a0 a1 a2 r1) (oc3 h0 (xLY h1) (by decide) on) (xVk _ _ _ _ _ _ _ _ h)) fun h0 h=>dE h xLh (xTd a0 a1 a2) (oc h0 on)
theorem xHt{N:Nat}{a0:Int}{a1:Int}{a2:List Org}{r:(List Org)}(h:xCv N  a0 a1 a2=some r):AbC 146 (xCm a0 a1 a2) (xBA r):=
 AbsCalls.of_reach xLh rfl rfl rfl (jL rfl) (xVl a0 a1 a2 r h)
noncomputable def I65:Info:= { body:=(Tryz.f65.body).getD .skip,nt:=24,results:=[.tmp 4],keep:=[0,2,4,6,8,5,7],live:=[],modes:=[(1,[(5,.take,false),(11,.take,false)])] }
theorem fk65:FnOk Tryz.prog 65 Tryz.f65 I65:=by refine⟨Tryz.func65,?_,?_,?_,?_⟩<;>kernel_rfl
def vFA(a0 a1):rE I65 (xDQ a0 a1) [Y] []=dn (xCJ true) [iY (dc (a0.cell<a1.cell))]:=by kernel_rfl
def vFB(a0 a1):rE I65 (xDQ a0 a1) [F,Y] []=dn (xCJ (dc (a0.row<a1.row))) [iN (dc (a0.cell<a1.cell)),iY (a0.cell==a1.cell)]:=by kernel_rfl
def vFC(a0 a1):rE I65 (xDQ a0 a1) [F,F] []=dn (xCJ false) [iN (dc (a0.cell<a1.cell)),iN (a0.cell==a1.cell)]:=by kernel_rfl
theorem vJI{N:Nat}:∀a0 a1 r,xFa N a0 a1=some r→RE Tryz.f65 I65 (xDQ a0 a1) (xCJ r):=fun a0 a1 r h=>cE h (fun h0 h=>dE h fk65 (vFA a0 a1) (oc h0 on)) fun h0 h=>cE h (fun h1 h=>dE h fk65 (vFB a0 a1) (oc2 h0 h1 on)) fun h1 h=>dE h fk65 (vFC a0 a1) (oc2 h0 h1 on)
theorem xIh{N:Nat}{a0:Org}{a1:Org}{r:Bool}(h:xFa N  a0 a1=some r):AbC 65 (xDQ a0 a1) (xCJ r):=
 AbsCalls.of_reach fk65 rfl rfl rfl (jL rfl) (vJI a0 a1 r h)
noncomputable def xQG:Info:= { body:=(Tryz.f64.body).getD .skip,nt:=15,results:=[.tmp 5],keep:=[0,2,4,10,5],live:=[],modes:=[],ext:=[2] }
theorem xSJ:FnOk Tryz.prog 64 Tryz.f64 xQG:=by refine⟨Tryz.func64,?_,?_,?_,?_⟩<;>kernel_rfl
abbrev xFb(v0:Int)(v1:List Org):Prop:=(0:Int)≤v0∧v0<(Ln v1)
abbrev xGN(v0:List Org)(v1:Int):=gD v0 (tN v1) Ty.org.dflt
def xTs(a0 a1 a2 r1):rE xQG (xBH a0 a1 a2) [] [xCJ r1]=dn (xAB (r1,a2)) [xFb a0 a2,xFb a1 a2,AbC 65 (xDQ (xGN a2 a0) (xGN a2 a1)) (xCJ r1)]:=by kernel_rfl
theorem xVs{N:Nat}:∀a0 a1 a2 r,xBh N a0 a1 a2=some r→RE Tryz.f64 xQG (xBH a0 a1 a2) (xAB r):=fun a0 a1 a2 r h=>iE h fun h0 h=>iE h fun h1 h=>bE h fun r1 h2 h=>dE h xSJ (xTs a0 a1 a2 r1) (oc3 h0 h1 (xIh h2) on)
theorem xAM{N:Nat}{a0:Int}{a1:Int}{a2:List Org}{r:Bool×(List Org)}(h:xBh N  a0 a1 a2=some r):AbC 64 (xBH a0 a1 a2) (xAB r):=
 AbsCalls.of_reach xSJ rfl rfl rfl (jL rfl) (xVs a0 a1 a2 r h)
noncomputable def xCq:Info:= { body:=(Tryz.f151.body).getD .skip,nt:=107,results:=[.tmp 8,.tmp 9],keep:=[0,2,4,6,8,16,18,20,22,60,86,96,146,172,182,2000008,9,2000009],live:=[(3,[2,8,20,22,2000008,9,2000009]),(5,[2,8,20,22,2000008,9,2000009]),(13,[2,8,20,22,2000008,9,2000009]),(15,[2,8,20,22,2000008,9,2000009])],modes:=[(3,[(3,.take,false)]),(5,[(3,.take,false)]),(13,[(3,.take,false)]),(15,[(3,.take,false)])],ext:=[1000004] }
theorem xEi:FnOk Tryz.prog 151 Tryz.f151 xCq:=by refine⟨Tryz.func151,?_,?_,?_,?_⟩<;>kernel_rfl
def xJf(x1 x10 x11:Int)(g004:List Org):St:=[(2,.v false [.int .i64 x1]),(8,.v false [.ptr 4 0]),(20,.v false [.int .i64 x10]),(22,.v false [.int .i64 x11]),(9,.v true [.clo 64 [1000004],.swp 141 0 (.pointer (some ⟨0,80,none⟩)) 1000004]),(2000009,.v true [.sl (.lnt 0) .org g004])]
def xHd(x1 x10 x11:Int)(g004:List Org):St:=[(2,.v false [.int .i64 x1]),(8,.v false [.ptr 4 0]),(20,.v false [.int .i64 x10]),(22,.v false [.int .i64 x11]),(9,.v true [.clo 64 [1000004],.swp 141 0 (.pointer (some ⟨0,80,none⟩)) 1000004]),(2000009,.v true [.sl (.lnt 0) .org g004])]
def xFW(x1 x10 x11:Int)(g004:List Org):St:=[(2,.v false [.int .i64 x1]),(8,.v false [.ptr 4 0]),(20,.v false [.int .i64 x10]),(22,.v false [.int .i64 x11]),(9,.v true [.clo 64 [1000004],.swp 141 0 (.pointer (some ⟨0,80,none⟩)) 1000004]),(2000009,.v true [.sl (.lnt 0) .org g004])]
def xGA(x1 x10 x11:Int)(g004:List Org):St:=[(2,.v false [.int .i64 x1]),(8,.v false [.ptr 4 0]),(20,.v false [.int .i64 x10]),(22,.v false [.int .i64 x11]),(9,.v true [.clo 64 [1000004],.swp 141 0 (.pointer (some ⟨0,80,none⟩)) 1000004]),(2000009,.v true [.sl (.lnt 0) .org g004])]
abbrev xMB(v0 v1:Int):Prop:=iY (dc (v0≤v1))
abbrev xMg(v0 v1:Int)(v2:List Org)(v3:Bool×(List Org)):Prop:=AbC 64 (xBH v0 v1 v2) (xAB v3)
def xPT(x1 x10 x11 g004 r1):rS 15 xCq (xGA x1 x10 x11 g004) [Y,Y] [xAB r1]=st 15 xCq (xGA x1 x10 (W (x11 - 1)) r1.2) [xMB x10 x11,xMg x11 x1 g004 r1,iY (!r1.1)]:=by kernel_rfl
def xPU(x1 x10 x11 g004 r1 r2):rS 15 xCq (xGA x1 x10 x11 g004) [Y,F,Y] [xAB r1,xAu r2]=dn (xAW (x11,false,r2)) [xMB x10 x11,xMg x11 x1 g004 r1,iN (!r1.1),iY (dc (x10>x11)),AbC 141 (xAV x11 x1 r1.2) (xAu r2),2≤Ln r1.2,Ln r2=Ln r1.2]:=by kernel_rfl
def xPV(x1 x10 x11 g004 r1 r2):rS 15 xCq (xGA x1 x10 x11 g004) [Y,F,F] [xAB r1,xAu r2]=st 13 xCq (xFW x1 (W (x10+1)) (W (x11 - 1)) r2) [xMB x10 x11,xMg x11 x1 g004 r1,iN (!r1.1),iN (dc (x10>x11)),AbC 141 (xAV x10 x11 r1.2) (xAu r2),2≤Ln r1.2,Ln r2=Ln r1.2]:=by kernel_rfl
abbrev xPP(v0 v1:Int):Prop:=iN (dc (v0≤v1))
def xPW(x1 x10 x11 g004 r1):rS 15 xCq (xGA x1 x10 x11 g004) [F,F,Y] [xAu r1]=dn (xAW (x11,false,r1)) [xPP x10 x11,iN false,iY (dc (x10>x11)),xSQ x11 x1 g004 r1,2≤Ln g004,Ln r1=Ln g004]:=by kernel_rfl
def xPX(x1 x10 x11 g004 r1):rS 15 xCq (xGA x1 x10 x11 g004) [F,F,F] [xAu r1]=st 13 xCq (xFW x1 (W (x10+1)) (W (x11 - 1)) r1) [xPP x10 x11,iN false,iN (dc (x10>x11)),xSQ x10 x11 g004 r1,2≤Ln g004,Ln r1=Ln g004]:=by kernel_rfl
def xPQ(x1 x10 x11 g004 r1):rS 13 xCq (xFW x1 x10 x11 g004) [Y,Y] [xAB r1]=st 13 xCq (xFW x1 (W (x10+1)) x11 r1.2) [xMB x10 x11,xMg x10 x1 g004 r1,iY r1.1]:=by kernel_rfl
def xPR(x1 x10 x11 g004 r1):rS 13 xCq (xFW x1 x10 x11 g004) [Y,F] [xAB r1]=st 15 xCq (xGA x1 x10 x11 r1.2) [xMB x10 x11,xMg x10 x1 g004 r1,iN r1.1]:=by kernel_rfl
def xPS(x1 x10 x11 g004):rS 13 xCq (xFW x1 x10 x11 g004) [F,F] []=st 15 xCq (xGA x1 x10 x11 g004) [xPP x10 x11,iN false]:=by kernel_rfl
def xRy(x1 x10 x11 g004 r1):rS 5 xCq (xHd x1 x10 x11 g004) [Y,Y] [xAB r1]=st 5 xCq (xHd x1 x10 (W (x11 - 1)) r1.2) [xMB x10 x11,xMg x11 x1 g004 r1,iY (!r1.1)]:=by kernel_rfl
def xRz(x1 x10 x11 g004 r1 r2):rS 5 xCq (xHd x1 x10 x11 g004) [Y,F,Y] [xAB r1,xAu r2]=dn (xAW (x11,true,r2)) [xMB x10 x11,xMg x11 x1 g004 r1,iN (!r1.1),iY (dc (x10>x11)),AbC 141 (xAV x11 x1 r1.2) (xAu r2),2≤Ln r1.2,Ln r2=Ln r1.2]:=by kernel_rfl
def xP1(x1 x10 x11 g004 r1 r2):rS 5 xCq (xHd x1 x10 x11 g004) [Y,F,F] [xAB r1,xAu r2]=st 13 xCq (xFW x1 (W (x10+1)) (W (x11 - 1)) r2) [xMB x10 x11,xMg x11 x1 g004 r1,iN (!r1.1),iN (dc (x10>x11)),AbC 141 (xAV x10 x11 r1.2) (xAu r2),2≤Ln r1.2,Ln r2=Ln r1.2]:=by kernel_rfl
def xP2(x1 x10 x11 g004 r1):rS 5 xCq (xHd x1 x10 x11 g004) [F,F,Y] [xAu r1]=dn (xAW (x11,true,r1)) [xPP x10 x11,iN false,iY (dc (x10>x11)),xSQ x11 x1 g004 r1,2≤Ln g004,Ln r1=Ln g004]:=by kernel_rfl
def xP3(x1 x10 x11 g004 r1):rS 5 xCq (xHd x1 x10 x11 g004) [F,F,F] [xAu r1]=st 13 xCq (xFW x1 (W (x10+1)) (W (x11 - 1)) r1) [xPP x10 x11,iN false,iN (dc (x10>x11)),xSQ x10 x11 g004 r1,2≤Ln g004,Ln r1=Ln g004]:=by kernel_rfl
def xPY(x1 x10 x11 g004 r1):rS 3 xCq (xJf x1 x10 x11 g004) [Y,Y] [xAB r1]=st 3 xCq (xJf x1 (W (x10+1)) x11 r1.2) [xMB x10 x11,xMg x10 x1 g004 r1,iY r1.1]:=by kernel_rfl
def xPZ(x1 x10 x11 g004 r1):rS 3 xCq (xJf x1 x10 x11 g004) [Y,F] [xAB r1]=st 5 xCq (xHd x1 x10 x11 r1.2) [xMB x10 x11,xMg x10 x1 g004 r1,iN r1.1]:=by kernel_rfl
def xP0(x1 x10 x11 g004):rS 3 xCq (xJf x1 x10 x11 g004) [F,F] []=st 5 xCq (xHd x1 x10 x11 g004) [xPP x10 x11,iN false]:=by kernel_rfl
def xP4(a0 a1 a2 a3 r1):rE xCq (xCC a0 a1 a2 a3) [] [xAu r1]=st 3 xCq (xJf a0 (W (a0+1)) (W (a1 - 1)) r1) [xSQ a0 a2 a3 r1,2≤Ln a3,Ln r1=Ln a3]:=by kernel_rfl
theorem xOf{N:Nat}{k13:Int→Int→Int→(List Org)→Option (Int×Bool×(List Org))}(hk13:∀z0 z1 z2 z3 r,k13 z0 z1 z2 z3=some r→RS Tryz.f151 xCq 13 (xFW z0 z1 z2 z3) (xAW r)):∀n x1 x10 x11 g004 r,xBu N k13 n x1 x10 x11 g004=some r→RS Tryz.f151 xCq 15 (xGA x1 x10 x11 g004) (xAW r):=by
 intro n
 induction n with
 |zero=>exact fun _ _ _ _ _ h=>nE h
 |succ n ih=>
  exact fun x1 x10 x11 g004 r h=>cE h (fun h0 h=>bE h fun r1 h1 h=>cE h (fun h2 h=>tS xEi (xPT x1 x10 x11 g004 r1) (oc3 h0 (xAM h1) h2 on) (ih _ _ _ _ _ h)) fun h2 h=>cE h (fun h3 h=>bE h fun r2 h4 h=>iE h fun h5 h=>iE h fun h6 h=>dS h xEi (xPU x1 x10 x11 g004 r1 r2) (oc7 h0 (xAM h1) h2 h3 (xAL h4) h5 h6 on)) fun h3 h=>bE h fun r2 h4 h=>iE h fun h5 h=>iE h fun h6 h=>tS xEi (xPV x1 x10 x11 g004 r1 r2) (oc7 h0 (xAM h1) h2 h3 (xAL h4) h5 h6 on) (hk13 _ _ _ _ _ h)) fun h0 h=>cE h (fun h2 h=>bE h fun r1 h3 h=>iE h fun h4 h=>iE h fun h5 h=>dS h xEi (xPW x1 x10 x11 g004 r1) (oc6 h0 rfl h2 (xAL h3) h4 h5 on)) fun h2 h=>bE h fun r1 h3 h=>iE h fun h4 h=>iE h fun h5 h=>tS xEi (xPX x1 x10 x11 g004 r1) (oc6 h0 rfl h2 (xAL h3) h4 h5 on) (hk13 _ _ _ _ _ h)
theorem xOe{N:Nat}:∀n x1 x10 x11 g004 r,xBa N n x1 x10 x11 g004=some r→RS Tryz.f151 xCq 13 (xFW x1 x10 x11 g004) (xAW r):=by
 intro n
 induction n with
 |zero=>exact fun _ _ _ _ _ h=>nE h
 |succ n ih=>
  exact fun x1 x10 x11 g004 r h=>cE h (fun h0 h=>bE h fun r1 h1 h=>cE h (fun h2 h=>tS xEi (xPQ x1 x10 x11 g004 r1) (oc3 h0 (xAM h1) h2 on) (ih _ _ _ _ _ h)) fun h2 h=>tS xEi (xPR x1 x10 x11 g004 r1) (oc3 h0 (xAM h1) h2 on) (xOf ih _ _ _ _ _ _ h)) fun h0 h=>tS xEi (xPS x1 x10 x11 g004) (oc2 h0 rfl on) (xOf ih _ _ _ _ _ _ h)
theorem xOO{N:Nat}:∀n x1 x10 x11 g004 r,xBy N n x1 x10 x11 g004=some r→RS Tryz.f151 xCq 5 (xHd x1 x10 x11 g004) (xAW r):=by
 intro n
 induction n with
 |zero=>exact fun _ _ _ _ _ h=>nE h
 |succ n ih=>
  exact fun x1 x10 x11 g004 r h=>cE h (fun h0 h=>bE h fun r1 h1 h=>cE h (fun h2 h=>tS xEi (xRy x1 x10 x11 g004 r1) (oc3 h0 (xAM h1) h2 on) (ih _ _ _ _ _ h)) fun h2 h=>cE h (fun h3 h=>bE h fun r2 h4 h=>iE h fun h5 h=>iE h fun h6 h=>dS h xEi (xRz x1 x10 x11 g004 r1 r2) (oc7 h0 (xAM h1) h2 h3 (xAL h4) h5 h6 on)) fun h3 h=>bE h fun r2 h4 h=>iE h fun h5 h=>iE h fun h6 h=>tS xEi (xP1 x1 x10 x11 g004 r1 r2) (oc7 h0 (xAM h1) h2 h3 (xAL h4) h5 h6 on) (xOe _ _ _ _ _ _ h)) fun h0 h=>cE h (fun h2 h=>bE h fun r1 h3 h=>iE h fun h4 h=>iE h fun h5 h=>dS h xEi (xP2 x1 x10 x11 g004 r1) (oc6 h0 rfl h2 (xAL h3) h4 h5 on)) fun h2 h=>bE h fun r1 h3 h=>iE h fun h4 h=>iE h fun h5 h=>tS xEi (xP3 x1 x10 x11 g004 r1) (oc6 h0 rfl h2 (xAL h3) h4 h5 on) (xOe _ _ _ _ _ _ h)
theorem xTM{N:Nat}:∀n x1 x10 x11 g004 r,xCa N n x1 x10 x11 g004=some r→RS Tryz.f151 xCq 3 (xJf x1 x10 x11 g004) (xAW r):=by
 intro n
 induction n with
 |zero=>exact fun _ _ _ _ _ h=>nE h
 |succ n ih=>
  exact fun x1 x10 x11 g004 r h=>cE h (fun h0 h=>bE h fun r1 h1 h=>cE h (fun h2 h=>tS xEi (xPY x1 x10 x11 g004 r1) (oc3 h0 (xAM h1) h2 on) (ih _ _ _ _ _ h)) fun h2 h=>tS xEi (xPZ x1 x10 x11 g004 r1) (oc3 h0 (xAM h1) h2 on) (xOO _ _ _ _ _ _ h)) fun h0 h=>tS xEi (xP0 x1 x10 x11 g004) (oc2 h0 rfl on) (xOO _ _ _ _ _ _ h)
theorem xTN{N:Nat}:∀a0 a1 a2 a3 r,xC6 N a0 a1 a2 a3=some r→RE Tryz.f151 xCq (xCC a0 a1 a2 a3) (xAW r):=fun a0 a1 a2 a3 r h=>bE h fun r1 h0 h=>iE h fun h1 h=>iE h fun h2 h=>tE xEi (xP4 a0 a1 a2 a3 r1) (oc3 (xAL h0) h1 h2 on) (xTM _ _ _ _ _ _ h)
theorem xFF{N:Nat}{a0:Int}{a1:Int}{a2:Int}{a3:List Org}{r:Int×Bool×(List Org)}(h:xC6 N  a0 a1 a2 a3=some r):AbC 151 (xCC a0 a1 a2 a3) (xAW r):=
 AbsCalls.of_reach xEi rfl rfl rfl (jL rfl) (xTN a0 a1 a2 a3 r h)
noncomputable def xEk:Info:= { body:=(Tryz.f150.body).getD .skip,nt:=58,results:=[.tmp 8],keep:=[0,2,4,6,8,16,18,20,60,84,94,2000008,9,2000009],live:=[(3,[2,8,18,20,2000008,9,2000009]),(5,[2,8,18,20,2000008,9,2000009])],modes:=[(3,[(3,.take,false)]),(5,[(3,.take,false)])],ext:=[1000004] }
theorem xHA:FnOk Tryz.prog 150 Tryz.f150 xEk:=by refine⟨Tryz.func150,?_,?_,?_,?_⟩<;>kernel_rfl
def xHb(x1 x9 x10:Int)(g004:List Org):St:=[(2,.v false [.int .i64 x1]),(8,.v false [.ptr 4 0]),(18,.v false [.int .i64 x9]),(20,.v false [.int .i64 x10]),(9,.v true [.clo 64 [1000004],.swp 141 0 (.pointer (some ⟨0,80,none⟩)) 1000004]),(2000009,.v true [.sl (.lnt 0) .org g004])]
def xHc(x1 x9 x10:Int)(g004:List Org):St:=[(2,.v false [.int .i64 x1]),(8,.v false [.ptr 4 0]),(18,.v false [.int .i64 x9]),(20,.v false [.int .i64 x10]),(9,.v true [.clo 64 [1000004],.swp 141 0 (.pointer (some ⟨0,80,none⟩)) 1000004]),(2000009,.v true [.sl (.lnt 0) .org g004])]
def xRs(x1 x9 x10 g004 r1):rS 5 xEk (xHc x1 x9 x10 g004) [Y,Y] [xAB r1]=st 5 xEk (xHc x1 x9 (W (x10 - 1)) r1.2) [xMB x9 x10,xMg x1 x10 g004 r1,iY r1.1]:=by kernel_rfl
def xRt(x1 x9 x10 g004 r1):rS 5 xEk (xHc x1 x9 x10 g004) [Y,F,Y] [xAB r1]=dn (xA8 (x9,r1.2)) [xMB x9 x10,xMg x1 x10 g004 r1,iN r1.1,iY (dc (x9>x10))]:=by kernel_rfl
def xRu(x1 x9 x10 g004 r1 r2):rS 5 xEk (xHc x1 x9 x10 g004) [Y,F,F] [xAB r1,xAu r2]=st 3 xEk (xHb x1 (W (x9+1)) (W (x10 - 1)) r2) [xMB x9 x10,xMg x1 x10 g004 r1,iN r1.1,iN (dc (x9>x10)),AbC 141 (xAV x9 x10 r1.2) (xAu r2),2≤Ln r1.2,Ln r2=Ln r1.2]:=by kernel_rfl
def xRv(x1 x9 x10 g004):rS 5 xEk (xHc x1 x9 x10 g004) [F,F,Y] []=dn (xA8 (x9,g004)) [xPP x9 x10,iN false,iY (dc (x9>x10))]:=by kernel_rfl
def xRw(x1 x9 x10 g004 r1):rS 5 xEk (xHc x1 x9 x10 g004) [F,F,F] [xAu r1]=st 3 xEk (xHb x1 (W (x9+1)) (W (x10 - 1)) r1) [xPP x9 x10,iN false,iN (dc (x9>x10)),xSQ x9 x10 g004 r1,2≤Ln g004,Ln r1=Ln g004]:=by kernel_rfl
def xRp(x1 x9 x10 g004 r1):rS 3 xEk (xHb x1 x9 x10 g004) [Y,Y] [xAB r1]=st 3 xEk (xHb x1 (W (x9+1)) x10 r1.2) [xMB x9 x10,xMg x1 x9 g004 r1,iY (!r1.1)]:=by kernel_rfl
def xRq(x1 x9 x10 g004 r1):rS 3 xEk (xHb x1 x9 x10 g004) [Y,F] [xAB r1]=st 5 xEk (xHc x1 x9 x10 r1.2) [xMB x9 x10,xMg x1 x9 g004 r1,iN (!r1.1)]:=by kernel_rfl
def xRr(x1 x9 x10 g004):rS 3 xEk (xHb x1 x9 x10 g004) [F,F] []=st 5 xEk (xHc x1 x9 x10 g004) [xPP x9 x10,iN false]:=by kernel_rfl
def xRx(a0 a1 a2 a3 r1):rE xEk (xCT a0 a1 a2 a3) [] [xAu r1]=st 3 xEk (xHb a0 (W (a0+1)) (W (a1 - 1)) r1) [xSQ a0 a2 a3 r1,2≤Ln a3,Ln r1=Ln a3]:=by kernel_rfl
theorem xON{N:Nat}{k3:Int→Int→Int→(List Org)→Option (Int×(List Org))}(hk3:∀z0 z1 z2 z3 r,k3 z0 z1 z2 z3=some r→RS Tryz.f150 xEk 3 (xHb z0 z1 z2 z3) (xA8 r)):∀n x1 x9 x10 g004 r,xBl N k3 n x1 x9 x10 g004=some r→RS Tryz.f150 xEk 5 (xHc x1 x9 x10 g004) (xA8 r):=by
 intro n
 induction n with
 |zero=>exact fun _ _ _ _ _ h=>nE h
 |succ n ih=>
  exact fun x1 x9 x10 g004 r h=>cE h (fun h0 h=>bE h fun r1 h1 h=>cE h (fun h2 h=>tS xHA (xRs x1 x9 x10 g004 r1) (oc3 h0 (xAM h1) h2 on) (ih _ _ _ _ _ h)) fun h2 h=>cE h (fun h3 h=>dS h xHA (xRt x1 x9 x10 g004 r1) (oc4 h0 (xAM h1) h2 h3 on)) fun h3 h=>bE h fun r2 h4 h=>iE h fun h5 h=>iE h fun h6 h=>tS xHA (xRu x1 x9 x10 g004 r1 r2) (oc7 h0 (xAM h1) h2 h3 (xAL h4) h5 h6 on) (hk3 _ _ _ _ _ h)) fun h0 h=>cE h (fun h2 h=>dS h xHA (xRv x1 x9 x10 g004) (oc3 h0 rfl h2 on)) fun h2 h=>bE h fun r1 h3 h=>iE h fun h4 h=>iE h fun h5 h=>tS xHA (xRw x1 x9 x10 g004 r1) (oc6 h0 rfl h2 (xAL h3) h4 h5 on) (hk3 _ _ _ _ _ h)
theorem xTK{N:Nat}:∀n x1 x9 x10 g004 r,xBk N n x1 x9 x10 g004=some r→RS Tryz.f150 xEk 3 (xHb x1 x9 x10 g004) (xA8 r):=by
 intro n
 induction n with
 |zero=>exact fun _ _ _ _ _ h=>nE h
 |succ n ih=>
  exact fun x1 x9 x10 g004 r h=>cE h (fun h0 h=>bE h fun r1 h1 h=>cE h (fun h2 h=>tS xHA (xRp x1 x9 x10 g004 r1) (oc3 h0 (xAM h1) h2 on) (ih _ _ _ _ _ h)) fun h2 h=>tS xHA (xRq x1 x9 x10 g004 r1) (oc3 h0 (xAM h1) h2 on) (xON ih _ _ _ _ _ _ h)) fun h0 h=>tS xHA (xRr x1 x9 x10 g004) (oc2 h0 rfl on) (xON ih _ _ _ _ _ _ h)
theorem xTL{N:Nat}:∀a0 a1 a2 a3 r,xCu N a0 a1 a2 a3=some r→RE Tryz.f150 xEk (xCT a0 a1 a2 a3) (xA8 r):=fun a0 a1 a2 a3 r h=>bE h fun r1 h0 h=>iE h fun h1 h=>iE h fun h2 h=>tE xHA (xRx a0 a1 a2 a3 r1) (oc3 (xAL h0) h1 h2 on) (xTK _ _ _ _ _ _ h)
theorem xHg{N:Nat}{a0:Int}{a1:Int}{a2:Int}{a3:List Org}{r:Int×(List Org)}(h:xCu N  a0 a1 a2 a3=some r):AbC 150 (xCT a0 a1 a2 a3) (xA8 r):=
 AbsCalls.of_reach xHA rfl rfl rfl (jL rfl) (xTL a0 a1 a2 a3 r h)
noncomputable def xCj:Info:= { body:=(Tryz.f149.body).getD .skip,nt:=91,results:=[.tmp 6],keep:=[0,2,4,6,12,14,16,18,20,28,56,66,74,94,102,120,140,150,168,2000006,7,2000007],live:=[(3,[2,4,6,14,16,2000006,7,2000007]),(5,[2,4,6,14,16,2000006,7,2000007]),(7,[2,4,6,14,16,2000006,7,2000007]),(14,[2,4,6,14,16,18,2000006,7,2000007]),(18,[2,4,6,14,16,2000006,7,2000007]),(20,[2,4,6,14,16,20,2000006,7,2000007])],modes:=[(5,[(3,.take,false)])],ext:=[1000003] }
theorem xEK:FnOk Tryz.prog 149 Tryz.f149 xCj:=by refine⟨Tryz.func149,?_,?_,?_,?_⟩<;>kernel_rfl
def xGu(x1 x2 x7 x8:Int)(g003:List Org):St:=[(2,.v false [.int .i64 x1]),(4,.v false [.int .i64 x2]),(6,.v false [.ptr 3 0]),(14,.v false [.int .i64 x7]),(16,.v false [.int .i64 x8]),(7,.v true [.clo 64 [1000003],.swp 141 0 (.pointer (some ⟨0,80,none⟩)) 1000003]),(2000007,.v true [.sl (.lnt 0) .org g003])]
def xJ7(x1 x2 x7 x8:Int)(g003:List Org):St:=[(2,.v false [.int .i64 x1]),(4,.v false [.int .i64 x2]),(6,.v false [.ptr 3 0]),(14,.v false [.int .i64 x7]),(16,.v false [.int .i64 x8]),(7,.v true [.clo 64 [1000003],.swp 141 0 (.pointer (some ⟨0,80,none⟩)) 1000003]),(2000007,.v true [.sl (.lnt 0) .org g003])]
def xJl(x1 x2 x7 x8:Int)(g003:List Org):St:=[(2,.v false [.int .i64 x1]),(4,.v false [.int .i64 x2]),(6,.v false [.ptr 3 0]),(14,.v false [.int .i64 x7]),(16,.v false [.int .i64 x8]),(7,.v true [.clo 64 [1000003],.swp 141 0 (.pointer (some ⟨0,80,none⟩)) 1000003]),(2000007,.v true [.sl (.lnt 0) .org g003])]
def xJi(x1 x2 x7 x8 x9:Int)(g003:List Org):St:=[(2,.v false [.int .i64 x1]),(4,.v false [.int .i64 x2]),(6,.v false [.ptr 3 0]),(14,.v false [.int .i64 x7]),(16,.v false [.int .i64 x8]),(18,.v false [.int .i64 x9]),(7,.v true [.clo 64 [1000003],.swp 141 0 (.pointer (some ⟨0,80,none⟩)) 1000003]),(2000007,.v true [.sl (.lnt 0) .org g003])]
def xJj(x1 x2 x7 x8:Int)(g003:List Org):St:=[(2,.v false [.int .i64 x1]),(4,.v false [.int .i64 x2]),(6,.v false [.ptr 3 0]),(14,.v false [.int .i64 x7]),(16,.v false [.int .i64 x8]),(7,.v true [.clo 64 [1000003],.swp 141 0 (.pointer (some ⟨0,80,none⟩)) 1000003]),(2000007,.v true [.sl (.lnt 0) .org g003])]
def xJk(x1 x2 x7 x8 x10:Int)(g003:List Org):St:=[(2,.v false [.int .i64 x1]),(4,.v false [.int .i64 x2]),(6,.v false [.ptr 3 0]),(14,.v false [.int .i64 x7]),(16,.v false [.int .i64 x8]),(20,.v false [.int .i64 x10]),(7,.v true [.clo 64 [1000003],.swp 141 0 (.pointer (some ⟨0,80,none⟩)) 1000003]),(2000007,.v true [.sl (.lnt 0) .org g003])]
abbrev xSV(v0:Int)(v1:List Org)(v2:Bool×(List Org)):Prop:=AbC 64 (xBH v0 (W (v0 - 1)) v1) (xAB v2)
def xR6(x1 x2 x7 x8 x10 g003 r1):rS 20 xCj (xJk x1 x2 x7 x8 x10 g003) [Y,Y] [xAB r1]=st 3 xCj (xGu x1 x2 x7 (W (x8+1)) r1.2) [xFn x10 x2,xSV x10 g003 r1,iY (!r1.1)]:=by kernel_rfl
def xR7(x1 x2 x7 x8 x10 g003 r1 r2):rS 20 xCj (xJk x1 x2 x7 x8 x10 g003) [Y,F] [xAB r1,xAu r2]=st 20 xCj (xJk x1 x2 x7 x8 (W (x10+1)) r2) [xFn x10 x2,xSV x10 g003 r1,iN (!r1.1),AbC 141 (xAV x10 (W (x10 - 1)) r1.2) (xAu r2),2≤Ln r1.2,Ln r2=Ln r1.2]:=by kernel_rfl
def xR8(x1 x2 x7 x8 x10 g003):rS 20 xCj (xJk x1 x2 x7 x8 x10 g003) [F] []=st 3 xCj (xGu x1 x2 x7 (W (x8+1)) g003) [xHr x10 x2]:=by kernel_rfl
def xR4(x1 x2 x7 x8 g003):rS 18 xCj (xJj x1 x2 x7 x8 g003) [Y] []=st 20 xCj (xJk x1 x2 x7 x8 (W (x7+1)) g003) [iY (dc ((W (x2 - x7))≥2))]:=by kernel_rfl
def xR5(x1 x2 x7 x8 g003):rS 18 xCj (xJj x1 x2 x7 x8 g003) [F] []=st 3 xCj (xGu x1 x2 x7 (W (x8+1)) g003) [iN (dc ((W (x2 - x7))≥2))]:=by kernel_rfl
def xR1(x1 x2 x7 x8 x9 g003 r1):rS 14 xCj (xJi x1 x2 x7 x8 x9 g003) [Y,Y] [xAB r1]=st 18 xCj (xJj x1 x2 x7 x8 r1.2) [iY (dc (x9≥1)),xSV x9 g003 r1,iY (!r1.1)]:=by kernel_rfl
def xR2(x1 x2 x7 x8 x9 g003 r1 r2):rS 14 xCj (xJi x1 x2 x7 x8 x9 g003) [Y,F] [xAB r1,xAu r2]=st 14 xCj (xJi x1 x2 x7 x8 (W (x9 - 1)) r2) [iY (dc (x9≥1)),xSV x9 g003 r1,iN (!r1.1),AbC 141 (xAV x9 (W (x9 - 1)) r1.2) (xAu r2),2≤Ln r1.2,Ln r2=Ln r1.2]:=by kernel_rfl
def xR3(x1 x2 x7 x8 x9 g003):rS 14 xCj (xJi x1 x2 x7 x8 x9 g003) [F] []=st 18 xCj (xJj x1 x2 x7 x8 g003) [iN (dc (x9≥1))]:=by kernel_rfl
def xTq(x1 x2 x7 x8 g003):rS 7 xCj (xJl x1 x2 x7 x8 g003) [Y] []=dn (xAC (true,g003)) [iY (x7==x2)]:=by kernel_rfl
def xTr(x1 x2 x7 x8 g003):rS 7 xCj (xJl x1 x2 x7 x8 g003) [F,Y] []=dn (xAC (false,g003)) [iN (x7==x2),iY (dc ((W (x2 - x1))<50))]:=by kernel_rfl
def xSe(x1 x2 x7 x8 g003 r1):rS 7 xCj (xJl x1 x2 x7 x8 g003) [F,F,Y] [xAu r1]=st 14 xCj (xJi x1 x2 x7 x8 (W (x7 - 1)) r1) [iN (x7==x2),iN (dc ((W (x2 - x1))<50)),AbC 141 (xAV x7 (W (x7 - 1)) g003) (xAu r1),2≤Ln g003,Ln r1=Ln g003,iY (dc ((W (x7 - x1))≥2))]:=by kernel_rfl
def xSf(x1 x2 x7 x8 g003 r1):rS 7 xCj (xJl x1 x2 x7 x8 g003) [F,F,F] [xAu r1]=st 18 xCj (xJj x1 x2 x7 x8 r1) [iN (x7==x2),iN (dc ((W (x2 - x1))<50)),AbC 141 (xAV x7 (W (x7 - 1)) g003) (xAu r1),2≤Ln g003,Ln r1=Ln g003,iN (dc ((W (x7 - x1))≥2))]:=by kernel_rfl
def xSb(x1 x2 x7 x8 g003 r1):rS 5 xCj (xJ7 x1 x2 x7 x8 g003) [Y,Y] [xAB r1]=st 5 xCj (xJ7 x1 x2 (W (x7+1)) x8 r1.2) [xFn x7 x2,xSV x7 g003 r1,iY (!r1.1)]:=by kernel_rfl
def xSc(x1 x2 x7 x8 g003 r1):rS 5 xCj (xJ7 x1 x2 x7 x8 g003) [Y,F] [xAB r1]=st 7 xCj (xJl x1 x2 x7 x8 r1.2) [xFn x7 x2,xSV x7 g003 r1,iN (!r1.1)]:=by kernel_rfl
def xSd(x1 x2 x7 x8 g003):rS 5 xCj (xJ7 x1 x2 x7 x8 g003) [F,F] []=st 7 xCj (xJl x1 x2 x7 x8 g003) [xHr x7 x2,iN false]:=by kernel_rfl
def xR9(x1 x2 x7 x8 g003):rS 3 xCj (xGu x1 x2 x7 x8 g003) [Y] []=st 5 xCj (xJ7 x1 x2 x7 x8 g003) [iY (dc (x8<5))]:=by kernel_rfl
def xSa(x1 x2 x7 x8 g003):rS 3 xCj (xGu x1 x2 x7 x8 g003) [F] []=dn (xAC (false,g003)) [iN (dc (x8<5))]:=by kernel_rfl
def xSg(a0 a1 a2):rE xCj (xBM a0 a1 a2) [] []=st 3 xCj (xGu a0 a1 (W (a0+1)) 0 a2) []:=by kernel_rfl
theorem xTU{N:Nat}{k3:Int→Int→Int→Int→(List Org)→Option (Bool×(List Org))}(hk3:∀z0 z1 z2 z3 z4 r,k3 z0 z1 z2 z3 z4=some r→RS Tryz.f149 xCj 3 (xGu z0 z1 z2 z3 z4) (xAC r)):∀n x1 x2 x7 x8 x10 g003 r,xBt N k3 n x1 x2 x7 x8 x10 g003=some r→RS Tryz.f149 xCj 20 (xJk x1 x2 x7 x8 x10 g003) (xAC r):=by
 intro n
 induction n with
 |zero=>exact fun _ _ _ _ _ _ _ h=>nE h
 |succ n ih=>
  exact fun x1 x2 x7 x8 x10 g003 r h=>cE h (fun h0 h=>bE h fun r1 h1 h=>cE h (fun h2 h=>tS xEK (xR6 x1 x2 x7 x8 x10 g003 r1) (oc3 h0 (xAM h1) h2 on) (hk3 _ _ _ _ _ _ h)) fun h2 h=>bE h fun r2 h3 h=>iE h fun h4 h=>iE h fun h5 h=>tS xEK (xR7 x1 x2 x7 x8 x10 g003 r1 r2) (oc6 h0 (xAM h1) h2 (xAL h3) h4 h5 on) (ih _ _ _ _ _ _ _ h)) fun h0 h=>tS xEK (xR8 x1 x2 x7 x8 x10 g003) (oc h0 on) (hk3 _ _ _ _ _ _ h)
theorem xMN{N:Nat}{k3:Int→Int→Int→Int→(List Org)→Option (Bool×(List Org))}(hk3:∀z0 z1 z2 z3 z4 r,k3 z0 z1 z2 z3 z4=some r→RS Tryz.f149 xCj 3 (xGu z0 z1 z2 z3 z4) (xAC r)):∀x1 x2 x7 x8 g003 r,xBg N k3 x1 x2 x7 x8 g003=some r→RS Tryz.f149 xCj 18 (xJj x1 x2 x7 x8 g003) (xAC r):=fun x1 x2 x7 x8 g003 r h=>cE h (fun h0 h=>tS xEK (xR4 x1 x2 x7 x8 g003) (oc h0 on) (xTU hk3 _ _ _ _ _ _ _ _ h)) fun h0 h=>tS xEK (xR5 x1 x2 x7 x8 g003) (oc h0 on) (hk3 _ _ _ _ _ _ h)
theorem xTT{N:Nat}{k3:Int→Int→Int→Int→(List Org)→Option (Bool×(List Org))}(hk3:∀z0 z1 z2 z3 z4 r,k3 z0 z1 z2 z3 z4=some r→RS Tryz.f149 xCj 3 (xGu z0 z1 z2 z3 z4) (xAC r)):∀n x1 x2 x7 x8 x9 g003 r,xBs N k3 n x1 x2 x7 x8 x9 g003=some r→RS Tryz.f149 xCj 14 (xJi x1 x2 x7 x8 x9 g003) (xAC r):=by
 intro n
 induction n with
 |zero=>exact fun _ _ _ _ _ _ _ h=>nE h
 |succ n ih=>
  exact fun x1 x2 x7 x8 x9 g003 r h=>cE h (fun h0 h=>bE h fun r1 h1 h=>cE h (fun h2 h=>tS xEK (xR1 x1 x2 x7 x8 x9 g003 r1) (oc3 h0 (xAM h1) h2 on) (xMN hk3 _ _ _ _ _ _ h)) fun h2 h=>bE h fun r2 h3 h=>iE h fun h4 h=>iE h fun h5 h=>tS xEK (xR2 x1 x2 x7 x8 x9 g003 r1 r2) (oc6 h0 (xAM h1) h2 (xAL h3) h4 h5 on) (ih _ _ _ _ _ _ _ h)) fun h0 h=>tS xEK (xR3 x1 x2 x7 x8 x9 g003) (oc h0 on) (xMN hk3 _ _ _ _ _ _ h)
theorem xQm{N:Nat}{k3:Int→Int→Int→Int→(List Org)→Option (Bool×(List Org))}(hk3:∀z0 z1 z2 z3 z4 r,k3 z0 z1 z2 z3 z4=some r→RS Tryz.f149 xCj 3 (xGu z0 z1 z2 z3 z4) (xAC r)):∀x1 x2 x7 x8 g003 r,xBw N k3 x1 x2 x7 x8 g003=some r→RS Tryz.f149 xCj 7 (xJl x1 x2 x7 x8 g003) (xAC r):=fun x1 x2 x7 x8 g003 r h=>cE h (fun h0 h=>dS h xEK (xTq x1 x2 x7 x8 g003) (oc h0 on)) fun h0 h=>cE h (fun h1 h=>dS h xEK (xTr x1 x2 x7 x8 g003) (oc2 h0 h1 on)) fun h1 h=>bE h fun r1 h2 h=>iE h fun h3 h=>iE h fun h4 h=>cE h (fun h5 h=>tS xEK (xSe x1 x2 x7 x8 g003 r1) (oc6 h0 h1 (xAL h2) h3 h4 h5 on) (xTT hk3 _ _ _ _ _ _ _ _ h)) fun h5 h=>tS xEK (xSf x1 x2 x7 x8 g003 r1) (oc6 h0 h1 (xAL h2) h3 h4 h5 on) (xMN hk3 _ _ _ _ _ _ h)
theorem xVq{N:Nat}{k3:Int→Int→Int→Int→(List Org)→Option (Bool×(List Org))}(hk3:∀z0 z1 z2 z3 z4 r,k3 z0 z1 z2 z3 z4=some r→RS Tryz.f149 xCj 3 (xGu z0 z1 z2 z3 z4) (xAC r)):∀n x1 x2 x7 x8 g003 r,xBv N k3 n x1 x2 x7 x8 g003=some r→RS Tryz.f149 xCj 5 (xJ7 x1 x2 x7 x8 g003) (xAC r):=by
 intro n
 induction n with
 |zero=>exact fun _ _ _ _ _ _ h=>nE h
 |succ n ih=>
  exact fun x1 x2 x7 x8 g003 r h=>cE h (fun h0 h=>bE h fun r1 h1 h=>cE h (fun h2 h=>tS xEK (xSb x1 x2 x7 x8 g003 r1) (oc3 h0 (xAM h1) h2 on) (ih _ _ _ _ _ _ h)) fun h2 h=>tS xEK (xSc x1 x2 x7 x8 g003 r1) (oc3 h0 (xAM h1) h2 on) (xQm hk3 _ _ _ _ _ _ h)) fun h0 h=>tS xEK (xSd x1 x2 x7 x8 g003) (oc2 h0 rfl on) (xQm hk3 _ _ _ _ _ _ h)
theorem xVp{N:Nat}:∀n x1 x2 x7 x8 g003 r,xBi N n x1 x2 x7 x8 g003=some r→RS Tryz.f149 xCj 3 (xGu x1 x2 x7 x8 g003) (xAC r):=by
 intro n
 induction n with
 |zero=>exact fun _ _ _ _ _ _ h=>nE h
 |succ n ih=>
  exact fun x1 x2 x7 x8 g003 r h=>cE h (fun h0 h=>tS xEK (xR9 x1 x2 x7 x8 g003) (oc h0 on) (xVq ih _ _ _ _ _ _ _ h)) fun h0 h=>dS h xEK (xSa x1 x2 x7 x8 g003) (oc h0 on)
theorem xVr{N:Nat}:∀a0 a1 a2 r,xB3 N a0 a1 a2=some r→RE Tryz.f149 xCj (xBM a0 a1 a2) (xAC r):=fun a0 a1 a2 r h=>tE xEK (xSg a0 a1 a2) on (xVp _ _ _ _ _ _ _ h)
theorem xEf{N:Nat}{a0:Int}{a1:Int}{a2:List Org}{r:Bool×(List Org)}(h:xB3 N  a0 a1 a2=some r):AbC 149 (xBM a0 a1 a2) (xAC r):=
 AbsCalls.of_reach xEK rfl rfl rfl (jL rfl) (xVr a0 a1 a2 r h)
noncomputable def xNc:Info:= { body:=(Tryz.f184.body).getD .skip,nt:=24,results:=[.tmp 8,.tmp 9],keep:=[0,2,4,6,8,16,18,28,2000008,7,9,2000009],live:=[],modes:=[],ext:=[3,1000004] }
theorem xNH:FnOk Tryz.prog 184 Tryz.f184 xNc:=by refine⟨Tryz.func184,?_,?_,?_,?_⟩<;>kernel_rfl
def xRK(a0 a1 a2 a3 r1):rE xNc (xB6 a0 a1 a2 a3) [Y] [xAB r1]=dn (xBn (a1,a0,(W (a2+1)),r1.2)) [xMg a1 a0 a3 r1,iY r1.1]:=by kernel_rfl
def xRL(a0 a1 a2 a3 r1):rE xNc (xB6 a0 a1 a2 a3) [F] [xAB r1]=dn (xBn (a0,a1,a2,r1.2)) [xMg a1 a0 a3 r1,iN r1.1]:=by kernel_rfl
theorem xTS{N:Nat}:∀a0 a1 a2 a3 r,xCo N a0 a1 a2 a3=some r→RE Tryz.f184 xNc (xB6 a0 a1 a2 a3) (xBn r):=fun a0 a1 a2 a3 r h=>bE h fun r1 h0 h=>cE h (fun h1 h=>dE h xNH (xRK a0 a1 a2 a3 r1) (oc2 (xAM h0) h1 on)) fun h1 h=>dE h xNH (xRL a0 a1 a2 a3 r1) (oc2 (xAM h0) h1 on)
theorem xEy{N:Nat}{a0:Int}{a1:Int}{a2:Int}{a3:List Org}{r:Int×Int×Int×(List Org)}(h:xCo N  a0 a1 a2 a3=some r):AbC 184 (xB6 a0 a1 a2 a3) (xBn r):=
 AbsCalls.of_reach xNH rfl rfl rfl (jL rfl) (xTS a0 a1 a2 a3 r h)
noncomputable def xOH:Info:= { body:=(Tryz.f170.body).getD .skip,nt:=36,results:=[.tmp 10],keep:=[0,2,4,6,8,10,20,2000010,9,11,2000011],live:=[],modes:=[(1,[(5,.take,false)]),(2,[(5,.take,false)]),(3,[(5,.take,false)])],ext:=[4,1000005] }
theorem xQp:FnOk Tryz.prog 170 Tryz.f170 xOH:=by refine⟨Tryz.func170,?_,?_,?_,?_⟩<;>kernel_rfl
def xRJ(a0 a1 a2 a3 a4 r1 r2 r3):rE xOH (xBF a0 a1 a2 a3 a4) [] [cl (xBn r1),cl (xBn r2),cl (xBn r3)]=dn (xAY (r3.2.1,r3.2.2.1,r3.2.2.2)) [AbC 184 (xB6 a0 a1 a3 a4) (xBn r1),AbC 184 (xB6 r1.2.1 a2 r1.2.2.1 r1.2.2.2) (xBn r2),AbC 184 (xB6 r1.1 r2.1 r2.2.2.1 r2.2.2.2) (xBn r3)]:=by kernel_rfl
theorem xTR{N:Nat}:∀a0 a1 a2 a3 a4 r,xCn N a0 a1 a2 a3 a4=some r→RE Tryz.f170 xOH (xBF a0 a1 a2 a3 a4) (xAY r):=fun a0 a1 a2 a3 a4 r h=>bE h fun r1 h0 h=>bE h fun r2 h1 h=>bE h fun r3 h2 h=>dE h xQp (xRJ a0 a1 a2 a3 a4 r1 r2 r3) (oc3 (xEy h0) (xEy h1) (xEy h2) on)
theorem xB5{N:Nat}{a0:Int}{a1:Int}{a2:Int}{a3:Int}{a4:List Org}{r:Int×Int×(List Org)}(h:xCn N  a0 a1 a2 a3 a4=some r):AbC 170 (xBF a0 a1 a2 a3 a4) (xAY r):=
 AbsCalls.of_reach xQp rfl rfl rfl (jL rfl) (xTR a0 a1 a2 a3 a4 r h)
noncomputable def xOG:Info:= { body:=(Tryz.f169.body).getD .skip,nt:=15,results:=[.tmp 6],keep:=[0,2,4,6,12,2000006,5,7,2000007],live:=[],modes:=[],ext:=[2,1000003] }
theorem xQo:FnOk Tryz.prog 169 Tryz.f169 xOG:=by refine⟨Tryz.func169,?_,?_,?_,?_⟩<;>kernel_rfl
def xRI(a0 a1 a2 r1):rE xOG (xBJ a0 a1 a2) [] [cl (xAY r1)]=dn (xAQ (r1.1,r1.2.1,r1.2.2)) [AbC 170 (xBF (W (a0 - 1)) a0 (W (a0+1)) a1 a2) (xAY r1)]:=by kernel_rfl
theorem xTQ{N:Nat}:∀a0 a1 a2 r,xBE N a0 a1 a2=some r→RE Tryz.f169 xOG (xBJ a0 a1 a2) (xAQ r):=fun a0 a1 a2 r h=>bE h fun r1 h0 h=>dE h xQo (xRI a0 a1 a2 r1) (oc (xB5 h0) on)
theorem xA7{N:Nat}{a0:Int}{a1:Int}{a2:List Org}{r:Int×Int×(List Org)}(h:xBE N  a0 a1 a2=some r):AbC 169 (xBJ a0 a1 a2) (xAQ r):=
 AbsCalls.of_reach xQo rfl rfl rfl (jL rfl) (xTQ a0 a1 a2 r h)
noncomputable def xIT:Info:= { body:=(Tryz.f147.body).getD .skip,nt:=57,results:=[.tmp 6,.tmp 7],keep:=[0,2,4,6,12,14,16,18,20,22,24,64,68,98,102,108,2000006,7,19,2000007],live:=[],modes:=[],ext:=[1000003] }
theorem xIk:FnOk Tryz.prog 147 Tryz.f147 xIT:=by refine⟨Tryz.func147,?_,?_,?_,?_⟩<;>kernel_rfl
abbrev xRa(v0 v1:Int):=W (Int.tdiv (W (v0 - v1)) 4)
abbrev vCD(v0 v1:Int)(v2:List Org)(v3:Int×Int×(List Org)):Prop:=AbC 169 (xBJ (W (v0+(W ((xRa v1 v0)*1)))) 0 v2) (xAQ v3)
abbrev xWh(v0 v1:Int)(v2 v3:Int×Int×(List Org)):Prop:=AbC 169 (xBJ (xNS v0 v1) v2.2.1 v2.2.2) (xAQ v3)
abbrev xWi(v0 v1:Int)(v2 v3:Int×Int×(List Org)):Prop:=AbC 169 (xBJ (W (v0+(W ((xRa v1 v0)*3)))) v2.2.1 v2.2.2) (xAQ v3)
abbrev xNT(v0 v1:Int):=dc ((W (v0 - v1))≥50)
def xTe(a0 a1 a2 r1 r2 r3 r4):rE xIT (xAX a0 a1 a2) [Y,Y,Y] [cl (xAQ r1),cl (xAQ r2),cl (xAQ r3),cl (xAY r4)]=dn (xAT (r4.1,1,r4.2.2)) [4≠(0:Int),4≠(0:Int),4≠(0:Int),xUx a1 a0,iY (xNT a1 a0),vCD a0 a1 a2 r1,xWh a0 a1 r1 r2,xWi a0 a1 r2 r3,AbC 170 (xBF r1.1 r2.1 r3.1 r3.2.1 r3.2.2) (xAY r4),iY (r4.2.1==0)]:=by kernel_rfl
def xTf(a0 a1 a2 r1 r2 r3 r4):rE xIT (xAX a0 a1 a2) [Y,Y,F,Y] [cl (xAQ r1),cl (xAQ r2),cl (xAQ r3),cl (xAY r4)]=dn (xAT (r4.1,2,r4.2.2)) [4≠(0:Int),4≠(0:Int),4≠(0:Int),xUx a1 a0,iY (xNT a1 a0),vCD a0 a1 a2 r1,xWh a0 a1 r1 r2,xWi a0 a1 r2 r3,AbC 170 (xBF r1.1 r2.1 r3.1 r3.2.1 r3.2.2) (xAY r4),iN (r4.2.1==0),iY (r4.2.1==12)]:=by kernel_rfl
def xTg(a0 a1 a2 r1 r2 r3 r4):rE xIT (xAX a0 a1 a2) [Y,Y,F,F] [cl (xAQ r1),cl (xAQ r2),cl (xAQ r3),cl (xAY r4)]=dn (xAT (r4.1,0,r4.2.2)) [4≠(0:Int),4≠(0:Int),4≠(0:Int),xUx a1 a0,iY (xNT a1 a0),vCD a0 a1 a2 r1,xWh a0 a1 r1 r2,xWi a0 a1 r2 r3,AbC 170 (xBF r1.1 r2.1 r3.1 r3.2.1 r3.2.2) (xAY r4),iN (r4.2.1==0),iN (r4.2.1==12)]:=by kernel_rfl
abbrev xWj(v0 v1:Int)(v2:List Org)(v3:Int×Int×(List Org)):Prop:=AbC 170 (xBF (W (v0+(W ((xRa v1 v0)*1)))) (xNS v0 v1) (W (v0+(W ((xRa v1 v0)*3)))) 0 v2) (xAY v3)
def xTh(a0 a1 a2 r1):rE xIT (xAX a0 a1 a2) [Y,F,Y] [cl (xAY r1)]=dn (xAT (r1.1,1,r1.2.2)) [4≠(0:Int),4≠(0:Int),4≠(0:Int),xUx a1 a0,iN (xNT a1 a0),xWj a0 a1 a2 r1,iY (r1.2.1==0)]:=by kernel_rfl
def xTi(a0 a1 a2 r1):rE xIT (xAX a0 a1 a2) [Y,F,F,Y] [cl (xAY r1)]=dn (xAT (r1.1,2,r1.2.2)) [4≠(0:Int),4≠(0:Int),4≠(0:Int),xUx a1 a0,iN (xNT a1 a0),xWj a0 a1 a2 r1,iN (r1.2.1==0),iY (r1.2.1==12)]:=by kernel_rfl
def xTj(a0 a1 a2 r1):rE xIT (xAX a0 a1 a2) [Y,F,F,F] [cl (xAY r1)]=dn (xAT (r1.1,0,r1.2.2)) [4≠(0:Int),4≠(0:Int),4≠(0:Int),xUx a1 a0,iN (xNT a1 a0),xWj a0 a1 a2 r1,iN (r1.2.1==0),iN (r1.2.1==12)]:=by kernel_rfl
def xTk(a0 a1 a2):rE xIT (xAX a0 a1 a2) [F,Y] []=dn (xAT ((xNS a0 a1),1,a2)) [4≠(0:Int),4≠(0:Int),4≠(0:Int),iN (dc ((W (a1 - a0))≥8)),iY ((0:Int)==0)]:=by kernel_rfl
def xTl(a0 a1 a2):rE xIT (xAX a0 a1 a2) [F,F,Y] []=dn (xAT ((xNS a0 a1),2,a2)) [4≠(0:Int),4≠(0:Int),4≠(0:Int),iN (dc ((W (a1 - a0))≥8)),iN ((0:Int)==0),iY ((0:Int)==12)]:=by kernel_rfl
def xTm(a0 a1 a2):rE xIT (xAX a0 a1 a2) [F,F,F] []=dn (xAT ((xNS a0 a1),0,a2)) [4≠(0:Int),4≠(0:Int),4≠(0:Int),iN (dc ((W (a1 - a0))≥8)),iN ((0:Int)==0),iN ((0:Int)==12)]:=by kernel_rfl
theorem xVm{N:Nat}:∀a0 a1 a2 r,xCO N a0 a1 a2=some r→RE Tryz.f147 xIT (xAX a0 a1 a2) (xAT r):=fun a0 a1 a2 r h=>cE h (fun h3 h=>cE h (fun h4 h=>bE h fun r1 h5 h=>bE h fun r2 h6 h=>bE h fun r3 h7 h=>bE h fun r4 h8 h=>cE h (fun h9 h=>dE h xIk (xTe a0 a1 a2 r1 r2 r3 r4) (oc10 (by decide) (by decide) (by decide) h3 h4 (xA7 h5) (xA7 h6) (xA7 h7) (xB5 h8) h9 on)) fun h9 h=>cE h (fun h10 h=>dE h xIk (xTf a0 a1 a2 r1 r2 r3 r4) (oc11 (by decide) (by decide) (by decide) h3 h4 (xA7 h5) (xA7 h6) (xA7 h7) (xB5 h8) h9 h10 on)) fun h10 h=>dE h xIk (xTg a0 a1 a2 r1 r2 r3 r4) (oc11 (by decide) (by decide) (by decide) h3 h4 (xA7 h5) (xA7 h6) (xA7 h7) (xB5 h8) h9 h10 on)) fun h4 h=>bE h fun r1 h5 h=>cE h (fun h6 h=>dE h xIk (xTh a0 a1 a2 r1) (oc7 (by decide) (by decide) (by decide) h3 h4 (xB5 h5) h6 on)) fun h6 h=>cE h (fun h7 h=>dE h xIk (xTi a0 a1 a2 r1) (oc8 (by decide) (by decide) (by decide) h3 h4 (xB5 h5) h6 h7 on)) fun h7 h=>dE h xIk (xTj a0 a1 a2 r1) (oc8 (by decide) (by decide) (by decide) h3 h4 (xB5 h5) h6 h7 on)) fun h3 h=>cE h (fun h4 h=>dE h xIk (xTk a0 a1 a2) (oc5 (by decide) (by decide) (by decide) h3 h4 on)) fun h4 h=>cE h (fun h5 h=>dE h xIk (xTl a0 a1 a2) (oc6 (by decide) (by decide) (by decide) h3 h4 h5 on)) fun h5 h=>dE h xIk (xTm a0 a1 a2) (oc6 (by decide) (by decide) (by decide) h3 h4 h5 on)
theorem xFj{N:Nat}{a0:Int}{a1:Int}{a2:List Org}{r:Int×Int×(List Org)}(h:xCO N  a0 a1 a2=some r):AbC 147 (xAX a0 a1 a2) (xAT r):=
 AbsCalls.of_reach xIk rfl rfl rfl (jL rfl) (xVm a0 a1 a2 r h)
noncomputable def xF7:Info:= { body:=(Tryz.f166.body).getD .skip,nt:=55,results:=[],keep:=[0,2,4,6,8,16,18,32,64,88,2000008,9,2000009],live:=[(2,[4,6,8,16,2000008,9,2000009])],modes:=[(4,[(4,.take,false)])],ext:=[1000004] }
theorem xH4:FnOk Tryz.prog 166 Tryz.f166 xF7:=by refine⟨Tryz.func166,?_,?_,?_,?_⟩<;>kernel_rfl
def xFH(x2 x3 x8:Int)(g004:List Org):St:=[(4,.v false [.int .i64 x2]),(6,.v false [.int .i64 x3]),(8,.v false [.ptr 4 0]),(16,.v false [.int .i64 x8]),(9,.v true [.clo 64 [1000004],.swp 141 0 (.pointer (some ⟨0,80,none⟩)) 1000004]),(2000009,.v true [.sl (.lnt 0) .org g004])]
abbrev xRb(v0:Int):=W ((W (2*v0))+1)
def xRA(x2 x3 x8 g004):rS 2 xF7 (xFH x2 x3 x8 g004) [Y] []=dn (xA3 g004) [iY (dc (((xRb x8):Int)≥x2))]:=by kernel_rfl
abbrev xQw(v0 v1:Int):Prop:=iN (dc (((xRb v0):Int)≥v1))
abbrev xUc(v0 v1:Int):=dc (((W ((W ((W (2*v0))+1))+1)):Int)<v1)
abbrev xUL(v0 v1:Int):Prop:=iY (xUc v0 v1)
abbrev xL9(v0 v1:Int):=W (v0+(W ((W (2*v1))+1)))
abbrev xUM(v0 v1:Int)(v2:List Org)(v3:Bool×(List Org)):Prop:=AbC 64 (xBH (xL9 v0 v1) (W ((xL9 v0 v1)+1)) v2) (xAB v3)
abbrev xRc(v0:Int):=W ((W ((W (2*v0))+1))+1)
def xRB(x2 x3 x8 g004 r1 r2):rS 2 xF7 (xFH x2 x3 x8 g004) [F,Y,Y,Y] [xAB r1,xAB r2]=dn (xA3 r2.2) [xQw x8 x2,xUL x8 x2,xUM x3 x8 g004 r1,iY r1.1,AbC 64 (xBH (W (x3+x8)) (W (x3+(xRc x8))) r1.2) (xAB r2),iY (!r2.1)]:=by kernel_rfl
def xRC(x2 x3 x8 g004 r1 r2 r3):rS 2 xF7 (xFH x2 x3 x8 g004) [F,Y,Y,F] [xAB r1,xAB r2,xAu r3]=st 2 xF7 (xFH x2 x3 (xRc x8) r3) [xQw x8 x2,xUL x8 x2,xUM x3 x8 g004 r1,iY r1.1,AbC 64 (xBH (W (x3+x8)) (W (x3+(xRc x8))) r1.2) (xAB r2),iN (!r2.1),AbC 141 (xAV (W (x3+x8)) (W (x3+(xRc x8))) r2.2) (xAu r3),2≤Ln r2.2,Ln r3=Ln r2.2]:=by kernel_rfl
def xRD(x2 x3 x8 g004 r1 r2):rS 2 xF7 (xFH x2 x3 x8 g004) [F,Y,F,Y] [xAB r1,xAB r2]=dn (xA3 r2.2) [xQw x8 x2,xUL x8 x2,xUM x3 x8 g004 r1,iN r1.1,AbC 64 (xBH (W (x3+x8)) (xL9 x3 x8) r1.2) (xAB r2),iY (!r2.1)]:=by kernel_rfl
def xRE(x2 x3 x8 g004 r1 r2 r3):rS 2 xF7 (xFH x2 x3 x8 g004) [F,Y,F,F] [xAB r1,xAB r2,xAu r3]=st 2 xF7 (xFH x2 x3 (xRb x8) r3) [xQw x8 x2,xUL x8 x2,xUM x3 x8 g004 r1,iN r1.1,AbC 64 (xBH (W (x3+x8)) (xL9 x3 x8) r1.2) (xAB r2),iN (!r2.1),AbC 141 (xAV (W (x3+x8)) (xL9 x3 x8) r2.2) (xAu r3),2≤Ln r2.2,Ln r3=Ln r2.2]:=by kernel_rfl
def xRF(x2 x3 x8 g004 r1):rS 2 xF7 (xFH x2 x3 x8 g004) [F,F,F,Y] [xAB r1]=dn (xA3 r1.2) [xQw x8 x2,iN (xUc x8 x2),iN false,AbC 64 (xBH (W (x3+x8)) (xL9 x3 x8) g004) (xAB r1),iY (!r1.1)]:=by kernel_rfl
def xRG(x2 x3 x8 g004 r1 r2):rS 2 xF7 (xFH x2 x3 x8 g004) [F,F,F,F] [xAB r1,xAu r2]=st 2 xF7 (xFH x2 x3 (xRb x8) r2) [xQw x8 x2,iN (xUc x8 x2),iN false,AbC 64 (xBH (W (x3+x8)) (xL9 x3 x8) g004) (xAB r1),iN (!r1.1),AbC 141 (xAV (W (x3+x8)) (xL9 x3 x8) r1.2) (xAu r2),2≤Ln r1.2,Ln r2=Ln r1.2]:=by kernel_rfl
def xRH(a0 a1 a2 a3):rE xF7 (xCS a0 a1 a2 a3) [] []=st 2 xF7 (xFH a1 a2 a0 a3) []:=by kernel_rfl
theorem xTO{N:Nat}:∀n x2 x3 x8 g004 r,xBB N n x2 x3 x8 g004=some r→RS Tryz.f166 xF7 2 (xFH x2 x3 x8 g004) (xA3 r):=by
 intro n
 induction n with
 |zero=>exact fun _ _ _ _ _ h=>nE h
 |succ n ih=>
  exact fun x2 x3 x8 g004 r h=>cE h (fun h0 h=>dS h xH4 (xRA x2 x3 x8 g004) (oc h0 on)) fun h0 h=>cE h (fun h1 h=>bE h fun r1 h2 h=>cE h (fun h3 h=>bE h fun r2 h4 h=>cE h (fun h5 h=>dS h xH4 (xRB x2 x3 x8 g004 r1 r2) (oc6 h0 h1 (xAM h2) h3 (xAM h4) h5 on)) fun h5 h=>bE h fun r3 h6 h=>iE h fun h7 h=>iE h fun h8 h=>tS xH4 (xRC x2 x3 x8 g004 r1 r2 r3) (oc9 h0 h1 (xAM h2) h3 (xAM h4) h5 (xAL h6) h7 h8 on) (ih _ _ _ _ _ h)) fun h3 h=>bE h fun r2 h4 h=>cE h (fun h5 h=>dS h xH4 (xRD x2 x3 x8 g004 r1 r2) (oc6 h0 h1 (xAM h2) h3 (xAM h4) h5 on)) fun h5 h=>bE h fun r3 h6 h=>iE h fun h7 h=>iE h fun h8 h=>tS xH4 (xRE x2 x3 x8 g004 r1 r2 r3) (oc9 h0 h1 (xAM h2) h3 (xAM h4) h5 (xAL h6) h7 h8 on) (ih _ _ _ _ _ h)) fun h1 h=>bE h fun r1 h3 h=>cE h (fun h4 h=>dS h xH4 (xRF x2 x3 x8 g004 r1) (oc5 h0 h1 rfl (xAM h3) h4 on)) fun h4 h=>bE h fun r2 h5 h=>iE h fun h6 h=>iE h fun h7 h=>tS xH4 (xRG x2 x3 x8 g004 r1 r2) (oc8 h0 h1 rfl (xAM h3) h4 (xAL h5) h6 h7 on) (ih _ _ _ _ _ h)
theorem xTP{N:Nat}:∀a0 a1 a2 a3 r,xB8 N a0 a1 a2 a3=some r→RE Tryz.f166 xF7 (xCS a0 a1 a2 a3) (xA3 r):=fun a0 a1 a2 a3 r h=>tE xH4 (xRH a0 a1 a2 a3) on (xTO _ _ _ _ _ _ h)
theorem xFQ{N:Nat}{a0:Int}{a1:Int}{a2:Int}{a3:List Org}{r:(List Org)}(h:xB8 N  a0 a1 a2 a3=some r):AbC 166 (xCS a0 a1 a2 a3) (xA3 r):=
 AbsCalls.of_reach xH4 rfl rfl rfl (jL rfl) (xTP a0 a1 a2 a3 r h)
noncomputable def xH3:Info:= { body:=(Tryz.f145.body).getD .skip,nt:=45,results:=[],keep:=[0,2,4,6,12,14,16,18,20,38,60,2000006,7,2000007],live:=[(5,[6,12,14,16,18,2000006,7,2000007]),(9,[6,12,14,20,2000006,7,2000007])],modes:=[(12,[(1,.take,false)])],ext:=[1000003] }
theorem xLg:FnOk Tryz.prog 145 Tryz.f145 xH3:=by refine⟨Tryz.func145,?_,?_,?_,?_⟩<;>kernel_rfl
def xLc(x6 x7 x8 x9:Int)(g003:List Org):St:=[(6,.v false [.ptr 3 0]),(12,.v false [.int .i64 x6]),(14,.v false [.int .i64 x7]),(16,.v false [.int .i64 x8]),(18,.v false [.int .i64 x9]),(7,.v true [.clo 64 [1000003],.swp 141 0 (.pointer (some ⟨0,80,none⟩)) 1000003]),(2000007,.v true [.sl (.lnt 0) .org g003])]
def xLd(x6 x7 x10:Int)(g003:List Org):St:=[(6,.v false [.ptr 3 0]),(12,.v false [.int .i64 x6]),(14,.v false [.int .i64 x7]),(20,.v false [.int .i64 x10]),(7,.v true [.clo 64 [1000003],.swp 141 0 (.pointer (some ⟨0,80,none⟩)) 1000003]),(2000007,.v true [.sl (.lnt 0) .org g003])]
def xS6(x6 x7 x10 g003 r1 r2):rS 9 xH3 (xLd x6 x7 x10 g003) [Y] [xAu r1,cl (xA3 r2)]=st 9 xH3 (xLd x6 x7 (W (x10 - 1)) r2) [iY (dc (x10≥0)),AbC 141 (xAV x6 (W (x6+x10)) g003) (xAu r1),2≤Ln g003,Ln r1=Ln g003,AbC 166 (xCS x7 x10 x6 r1) (xA3 r2)]:=by kernel_rfl
def xS7(x6 x7 x10 g003):rS 9 xH3 (xLd x6 x7 x10 g003) [F] []=dn (xBQ g003) [iN (dc (x10≥0))]:=by kernel_rfl
def xS4(x6 x7 x8 x9 g003 r1):rS 5 xH3 (xLc x6 x7 x8 x9 g003) [Y] [cl (xA3 r1)]=st 5 xH3 (xLc x6 x7 x8 (W (x9 - 1)) r1) [iY (dc (x9≥0)),AbC 166 (xCS x9 x8 x6 g003) (xA3 r1)]:=by kernel_rfl
def xS5(x6 x7 x8 x9 g003):rS 5 xH3 (xLc x6 x7 x8 x9 g003) [F] []=st 9 xH3 (xLd x6 x7 (W (x8 - 1)) g003) [iN (dc (x9≥0))]:=by kernel_rfl
def xS8(a0 a1 a2):rE xH3 (xDr a0 a1 a2) [] []=st 5 xH3 (xLc a0 0 (W (a1 - a0)) (W (Int.tdiv (W ((W (a1 - a0)) - 1)) 2)) a2) [2≠(0:Int)]:=by kernel_rfl
theorem xVi{N:Nat}:∀n x6 x7 x10 g003 r,xCi N n x6 x7 x10 g003=some r→RS Tryz.f145 xH3 9 (xLd x6 x7 x10 g003) (xBQ r):=by
 intro n
 induction n with
 |zero=>exact fun _ _ _ _ _ h=>nE h
 |succ n ih=>
  exact fun x6 x7 x10 g003 r h=>cE h (fun h0 h=>bE h fun r1 h1 h=>iE h fun h2 h=>iE h fun h3 h=>bE h fun r2 h4 h=>tS xLg (xS6 x6 x7 x10 g003 r1 r2) (oc5 h0 (xAL h1) h2 h3 (xFQ h4) on) (ih _ _ _ _ _ h)) fun h0 h=>dS h xLg (xS7 x6 x7 x10 g003) (oc h0 on)
theorem xVh{N:Nat}:∀n x6 x7 x8 x9 g003 r,xCh N n x6 x7 x8 x9 g003=some r→RS Tryz.f145 xH3 5 (xLc x6 x7 x8 x9 g003) (xBQ r):=by
 intro n
 induction n with
 |zero=>exact fun _ _ _ _ _ _ h=>nE h
 |succ n ih=>
  exact fun x6 x7 x8 x9 g003 r h=>cE h (fun h0 h=>bE h fun r1 h1 h=>tS xLg (xS4 x6 x7 x8 x9 g003 r1) (oc2 h0 (xFQ h1) on) (ih _ _ _ _ _ _ h)) fun h0 h=>tS xLg (xS5 x6 x7 x8 x9 g003) (oc h0 on) (xVi _ _ _ _ _ _ h)
theorem xVj{N:Nat}:∀a0 a1 a2 r,xDd N a0 a1 a2=some r→RE Tryz.f145 xH3 (xDr a0 a1 a2) (xBQ r):=fun a0 a1 a2 r h=>tE xLg (xS8 a0 a1 a2) (oc (by decide) on) (xVh _ _ _ _ _ _ _ h)
theorem xIj{N:Nat}{a0:Int}{a1:Int}{a2:List Org}{r:(List Org)}(h:xDd N  a0 a1 a2=some r):AbC 145 (xDr a0 a1 a2) (xBQ r):=
 AbsCalls.of_reach xLg rfl rfl rfl (jL rfl) (xVj a0 a1 a2 r h)
noncomputable def xGT:Info:= { body:=(Tryz.f144.body).getD .skip,nt:=35,results:=[],keep:=[0,2,4,6,12,14,24,52,2000006,7,2000007],live:=[(2,[2,4,6,12,2000006,7,2000007]),(5,[2,4,6,12,14,2000006,7,2000007])],modes:=[(5,[(3,.take,false)])],ext:=[1000003] }
theorem xKe:FnOk Tryz.prog 144 Tryz.f144 xGT:=by refine⟨Tryz.func144,?_,?_,?_,?_⟩<;>kernel_rfl
def xJg(x1 x2 x6:Int)(g003:List Org):St:=[(2,.v false [.int .i64 x1]),(4,.v false [.int .i64 x2]),(6,.v false [.ptr 3 0]),(12,.v false [.int .i64 x6]),(7,.v true [.clo 64 [1000003],.swp 141 0 (.pointer (some ⟨0,80,none⟩)) 1000003]),(2000007,.v true [.sl (.lnt 0) .org g003])]
def xJ6(x1 x2 x6 x7:Int)(g003:List Org):St:=[(2,.v false [.int .i64 x1]),(4,.v false [.int .i64 x2]),(6,.v false [.ptr 3 0]),(12,.v false [.int .i64 x6]),(14,.v false [.int .i64 x7]),(7,.v true [.clo 64 [1000003],.swp 141 0 (.pointer (some ⟨0,80,none⟩)) 1000003]),(2000007,.v true [.sl (.lnt 0) .org g003])]
def xS0(x1 x2 x6 x7 g003 r1 r2):rS 5 xGT (xJ6 x1 x2 x6 x7 g003) [Y,Y] [xAB r1,xAu r2]=st 5 xGT (xJ6 x1 x2 x6 (W (x7 - 1)) r2) [iY (dc (x7>x1)),xSV x7 g003 r1,iY r1.1,AbC 141 (xAV x7 (W (x7 - 1)) r1.2) (xAu r2),2≤Ln r1.2,Ln r2=Ln r1.2]:=by kernel_rfl
def xS1(x1 x2 x6 x7 g003 r1):rS 5 xGT (xJ6 x1 x2 x6 x7 g003) [Y,F] [xAB r1]=st 2 xGT (xJg x1 x2 (W (x6+1)) r1.2) [iY (dc (x7>x1)),xSV x7 g003 r1,iN r1.1]:=by kernel_rfl
def xS2(x1 x2 x6 x7 g003):rS 5 xGT (xJ6 x1 x2 x6 x7 g003) [F,F] []=st 2 xGT (xJg x1 x2 (W (x6+1)) g003) [iN (dc (x7>x1)),iN false]:=by kernel_rfl
def xSY(x1 x2 x6 g003):rS 2 xGT (xJg x1 x2 x6 g003) [Y] []=st 5 xGT (xJ6 x1 x2 x6 x6 g003) [xFn x6 x2]:=by kernel_rfl
def xSZ(x1 x2 x6 g003):rS 2 xGT (xJg x1 x2 x6 g003) [F] []=dn (xBo g003) [xHr x6 x2]:=by kernel_rfl
def xS3(a0 a1 a2):rE xGT (xC3 a0 a1 a2) [] []=st 2 xGT (xJg a0 a1 (W (a0+1)) a2) []:=by kernel_rfl
theorem xVf{N:Nat}{k2:Int→Int→Int→(List Org)→Option ((List Org))}(hk2:∀z0 z1 z2 z3 r,k2 z0 z1 z2 z3=some r→RS Tryz.f144 xGT 2 (xJg z0 z1 z2 z3) (xBo r)):∀n x1 x2 x6 x7 g003 r,xBP N k2 n x1 x2 x6 x7 g003=some r→RS Tryz.f144 xGT 5 (xJ6 x1 x2 x6 x7 g003) (xBo r):=by
 intro n
 induction n with
 |zero=>exact fun _ _ _ _ _ _ h=>nE h
 |succ n ih=>
  exact fun x1 x2 x6 x7 g003 r h=>cE h (fun h0 h=>bE h fun r1 h1 h=>cE h (fun h2 h=>bE h fun r2 h3 h=>iE h fun h4 h=>iE h fun h5 h=>tS xKe (xS0 x1 x2 x6 x7 g003 r1 r2) (oc6 h0 (xAM h1) h2 (xAL h3) h4 h5 on) (ih _ _ _ _ _ _ h)) fun h2 h=>tS xKe (xS1 x1 x2 x6 x7 g003 r1) (oc3 h0 (xAM h1) h2 on) (hk2 _ _ _ _ _ h)) fun h0 h=>tS xKe (xS2 x1 x2 x6 x7 g003) (oc2 h0 rfl on) (hk2 _ _ _ _ _ h)
theorem xVe{N:Nat}:∀n x1 x2 x6 g003 r,xBO N n x1 x2 x6 g003=some r→RS Tryz.f144 xGT 2 (xJg x1 x2 x6 g003) (xBo r):=by
 intro n
 induction n with
 |zero=>exact fun _ _ _ _ _ h=>nE h
 |succ n ih=>
  exact fun x1 x2 x6 g003 r h=>cE h (fun h0 h=>tS xKe (xSY x1 x2 x6 g003) (oc h0 on) (xVf ih _ _ _ _ _ _ _ h)) fun h0 h=>dS h xKe (xSZ x1 x2 x6 g003) (oc h0 on)
theorem xVg{N:Nat}:∀a0 a1 a2 r,xCw N a0 a1 a2=some r→RE Tryz.f144 xGT (xC3 a0 a1 a2) (xBo r):=fun a0 a1 a2 r h=>tE xKe (xS3 a0 a1 a2) on (xVe _ _ _ _ _ _ h)
theorem xHu{N:Nat}{a0:Int}{a1:Int}{a2:List Org}{r:(List Org)}(h:xCw N  a0 a1 a2=some r):AbC 144 (xC3 a0 a1 a2) (xBo r):=
 AbsCalls.of_reach xKe rfl rfl rfl (jL rfl) (xVg a0 a1 a2 r h)
def xKL(q:Int→Int→Int→(List Org)→Option ((List Org))):Prop:=∀a0 a1 a2 a3 r,q a0 a1 a2 a3=some r→AbC 107 (xBX a0 a1 a2 a3) (xAO r)
noncomputable def xCx:Info:= { body:=(Tryz.f107.body).getD .skip,nt:=130,results:=[],keep:=[0,2,4,6,8,16,18,20,22,24,26,28,30,32,34,36,46,58,70,100,136,144,166,218,2000008,9,2000009],live:=[(3,[2,4,6,8,16,18,2000008,9,2000009]),(11,[2,4,6,8,16,18,20,2000008,9,2000009]),(16,[2,4,6,8,16,18,20,22,24,2000008,9,2000009]),(18,[2,4,6,8,16,18,20,22,2000008,9,2000009]),(21,[2,4,6,8,20,22,2000008,9,2000009])],modes:=[(11,[(4,.take,false)]),(16,[(1,.take,false),(2,.take,false),(4,.take,false)]),(18,[(2,.take,false)]),(20,[(0,.take,false)]),(21,[(5,.take,false)]),(22,[(0,.take,false)])],ext:=[1000004] }
theorem xE1:FnOk Tryz.prog 107 Tryz.f107 xCx:=by refine⟨Tryz.func107,?_,?_,?_,?_⟩<;>kernel_rfl
def xF1(x1 x2 x3:Int)(x8 x9:Bool)(g004:List Org):St:=[(2,.v false [.int .i64 x1]),(4,.v false [.int .i64 x2]),(6,.v false [.int .i64 x3]),(8,.v false [.ptr 4 0]),(16,.v false [.bool x8]),(18,.v false [.bool x9]),(9,.v true [.clo 64 [1000004],.swp 141 0 (.pointer (some ⟨0,80,none⟩)) 1000004]),(2000009,.v true [.sl (.lnt 0) .org g004])]
def xKb(x1 x2 x3:Int)(x8 x9:Bool)(x10:Int)(g004:List Org):St:=[(2,.v false [.int .i64 x1]),(4,.v false [.int .i64 x2]),(6,.v false [.int .i64 x3]),(8,.v false [.ptr 4 0]),(16,.v false [.bool x8]),(18,.v false [.bool x9]),(20,.v false [.int .i64 x10]),(9,.v true [.clo 64 [1000004],.swp 141 0 (.pointer (some ⟨0,80,none⟩)) 1000004]),(2000009,.v true [.sl (.lnt 0) .org g004])]
def xHS(x1 x2 x3:Int)(x8 x9:Bool)(x10 x11 x12:Int)(g004:List Org):St:=[(2,.v false [.int .i64 x1]),(4,.v false [.int .i64 x2]),(6,.v false [.int .i64 x3]),(8,.v false [.ptr 4 0]),(16,.v false [.bool x8]),(18,.v false [.bool x9]),(20,.v false [.int .i64 x10]),(22,.v false [.int .i64 x11]),(24,.v false [.int .i64 x12]),(9,.v true [.clo 64 [1000004],.swp 141 0 (.pointer (some ⟨0,80,none⟩)) 1000004]),(2000009,.v true [.sl (.lnt 0) .org g004])]
def xHT(x1 x2 x3:Int)(x8 x9:Bool)(x10 x11:Int)(g004:List Org):St:=[(2,.v false [.int .i64 x1]),(4,.v false [.int .i64 x2]),(6,.v false [.int .i64 x3]),(8,.v false [.ptr 4 0]),(16,.v false [.bool x8]),(18,.v false [.bool x9]),(20,.v false [.int .i64 x10]),(22,.v false [.int .i64 x11]),(9,.v true [.clo 64 [1000004],.swp 141 0 (.pointer (some ⟨0,80,none⟩)) 1000004]),(2000009,.v true [.sl (.lnt 0) .org g004])]
def xKc(x1 x2 x3 x10 x11:Int)(g004:List Org):St:=[(2,.v false [.int .i64 x1]),(4,.v false [.int .i64 x2]),(6,.v false [.int .i64 x3]),(8,.v false [.ptr 4 0]),(20,.v false [.int .i64 x10]),(22,.v false [.int .i64 x11]),(9,.v true [.clo 64 [1000004],.swp 141 0 (.pointer (some ⟨0,80,none⟩)) 1000004]),(2000009,.v true [.sl (.lnt 0) .org g004])]
def xRU(x1 x2 x3 x10 x11 g004 r1 r2):rS 21 xCx (xKc x1 x2 x3 x10 x11 g004) [Y] [cl (xAW r1),cl (xAO r2)]=st 3 xCx (xF1 (W (r1.1+1)) x2 x3 (dc ((W (r1.1 - x1))≥(W (Int.tdiv x10 8)))) r1.2.1 r2) [AbC 151 (xCC x1 x2 x11 g004) (xAW r1),8≠(0:Int),iY (dc ((W (r1.1 - x1))<(W (x2 - r1.1)))),AbC 107 (xBX x1 r1.1 x3 r1.2.2) (xAO r2)]:=by kernel_rfl
def xRV(x1 x2 x3 x10 x11 g004 r1 r2):rS 21 xCx (xKc x1 x2 x3 x10 x11 g004) [F] [cl (xAW r1),cl (xAO r2)]=st 3 xCx (xF1 x1 r1.1 x3 (dc ((W (x2 - r1.1))≥(W (Int.tdiv x10 8)))) r1.2.1 r2) [AbC 151 (xCC x1 x2 x11 g004) (xAW r1),8≠(0:Int),iN (dc ((W (r1.1 - x1))<(W (x2 - r1.1)))),AbC 107 (xBX (W (r1.1+1)) x2 x3 r1.2.2) (xAO r2)]:=by kernel_rfl
def xRR(x1 x2 x3 x8 x9 x10 x11 g004 r1 r2):rS 18 xCx (xHT x1 x2 x3 x8 x9 x10 x11 g004) [Y,Y] [xAB r1,cl (xA8 r2)]=st 3 xCx (xF1 r2.1 x2 x3 x8 x9 r2.2) [iY (dc (x1>0)),AbC 64 (xBH (W (x1 - 1)) x11 g004) (xAB r1),iY (!r1.1),AbC 150 (xCT x1 x2 x11 r1.2) (xA8 r2)]:=by kernel_rfl
def xRS(x1 x2 x3 x8 x9 x10 x11 g004 r1):rS 18 xCx (xHT x1 x2 x3 x8 x9 x10 x11 g004) [Y,F] [xAB r1]=st 21 xCx (xKc x1 x2 x3 x10 x11 r1.2) [iY (dc (x1>0)),AbC 64 (xBH (W (x1 - 1)) x11 g004) (xAB r1),iN (!r1.1)]:=by kernel_rfl
def xRT(x1 x2 x3 x8 x9 x10 x11 g004):rS 18 xCx (xHT x1 x2 x3 x8 x9 x10 x11 g004) [F,F] []=st 21 xCx (xKc x1 x2 x3 x10 x11 g004) [iN (dc (x1>0)),iN false]:=by kernel_rfl
def xRM(x1 x2 x3 x8 x9 x10 x11 x12 g004 r1):rS 16 xCx (xHS x1 x2 x3 x8 x9 x10 x11 x12 g004) [Y,Y,Y,Y] [cl (xAC r1)]=dn (xAO r1.2) [iY x8,iY x9,iY (x12==1),AbC 149 (xBM x1 x2 g004) (xAC r1),iY r1.1]:=by kernel_rfl
def xRN(x1 x2 x3 x8 x9 x10 x11 x12 g004 r1):rS 16 xCx (xHS x1 x2 x3 x8 x9 x10 x11 x12 g004) [Y,Y,Y,F] [cl (xAC r1)]=st 18 xCx (xHT x1 x2 x3 x8 x9 x10 x11 r1.2) [iY x8,iY x9,iY (x12==1),AbC 149 (xBM x1 x2 g004) (xAC r1),iN r1.1]:=by kernel_rfl
def xRO(x1 x2 x3 x8 x9 x10 x11 x12 g004):rS 16 xCx (xHS x1 x2 x3 x8 x9 x10 x11 x12 g004) [Y,Y,F] []=st 18 xCx (xHT x1 x2 x3 x8 x9 x10 x11 g004) [iY x8,iY x9,iN (x12==1)]:=by kernel_rfl
def xRP(x1 x2 x3 x8 x9 x10 x11 x12 g004):rS 16 xCx (xHS x1 x2 x3 x8 x9 x10 x11 x12 g004) [Y,F,F] []=st 18 xCx (xHT x1 x2 x3 x8 x9 x10 x11 g004) [iY x8,iN x9,iN false]:=by kernel_rfl
def xRQ(x1 x2 x3 x8 x9 x10 x11 x12 g004):rS 16 xCx (xHS x1 x2 x3 x8 x9 x10 x11 x12 g004) [F,F,F] []=st 18 xCx (xHT x1 x2 x3 x8 x9 x10 x11 g004) [iN x8,iN false,iN false]:=by kernel_rfl
def xP5(x1 x2 x3 x8 x9 x10 g004 r1 r2):rS 11 xCx (xKb x1 x2 x3 x8 x9 x10 g004) [Y] [cl (xAT r1),cl (xBW r2)]=st 16 xCx (xHS x1 x2 x3 x8 x9 x10 (W ((W (x2 - 1)) - (W (r1.1 - x1)))) 1 r2) [AbC 147 (xAX x1 x2 g004) (xAT r1),iY (r1.2.1==2),AbC 148 (xC9 x1 x2 r1.2.2) (xBW r2)]:=by kernel_rfl
def xP6(x1 x2 x3 x8 x9 x10 g004 r1):rS 11 xCx (xKb x1 x2 x3 x8 x9 x10 g004) [F] [cl (xAT r1)]=st 16 xCx (xHS x1 x2 x3 x8 x9 x10 r1.1 r1.2.1 r1.2.2) [AbC 147 (xAX x1 x2 g004) (xAT r1),iN (r1.2.1==2)]:=by kernel_rfl
def xRW(x1 x2 x3 x8 x9 g004 r1):rS 3 xCx (xF1 x1 x2 x3 x8 x9 g004) [Y] [cl (xBo r1)]=dn (xAO r1) [iY (dc ((W (x2 - x1))≤12)),AbC 144 (xC3 x1 x2 g004) (xBo r1)]:=by kernel_rfl
def xRX(x1 x2 x3 x8 x9 g004 r1):rS 3 xCx (xF1 x1 x2 x3 x8 x9 g004) [F,Y] [cl (xBQ r1)]=dn (xAO r1) [iN (dc ((W (x2 - x1))≤12)),iY (x3==0),AbC 145 (xDr x1 x2 g004) (xBQ r1)]:=by kernel_rfl
abbrev xKN(v0:Int):Prop:=iN (v0==0)
def xRY(x1 x2 x3 x8 x9 g004 r1):rS 3 xCx (xF1 x1 x2 x3 x8 x9 g004) [F,F,Y] [cl (xBA r1)]=st 11 xCx (xKb x1 x2 (W (x3 - 1)) x8 x9 (W (x2 - x1)) r1) [iN (dc ((W (x2 - x1))≤12)),xKN x3,iY (!x8),AbC 146 (xCm x1 x2 g004) (xBA r1)]:=by kernel_rfl
abbrev xBT(v0:Bool):Prop:=iN (!v0)
def xRZ(x1 x2 x3 x8 x9 g004):rS 3 xCx (xF1 x1 x2 x3 x8 x9 g004) [F,F,F] []=st 11 xCx (xKb x1 x2 x3 x8 x9 (W (x2 - x1)) g004) [iN (dc ((W (x2 - x1))≤12)),xKN x3,xBT x8]:=by kernel_rfl
def xR0(a0 a1 a2 a3):rE xCx (xBX a0 a1 a2 a3) [] []=st 3 xCx (xF1 a0 a1 a2 true true a3) []:=by kernel_rfl
theorem xOR{N q0}(g0:xKL q0){k3:Int→Int→Int→Bool→Bool→(List Org)→Option ((List Org))}(hk3:∀z0 z1 z2 z3 z4 z5 r,k3 z0 z1 z2 z3 z4 z5=some r→RS Tryz.f107 xCx 3 (xF1 z0 z1 z2 z3 z4 z5) (xAO r)):∀x1 x2 x3 x10 x11 g004 r,xCR N q0 k3 x1 x2 x3 x10 x11 g004=some r→RS Tryz.f107 xCx 21 (xKc x1 x2 x3 x10 x11 g004) (xAO r):=fun x1 x2 x3 x10 x11 g004 r h=>bE h fun r1 h0 h=>cE h (fun h2 h=>bE h fun r2 h3 h=>tS xE1 (xRU x1 x2 x3 x10 x11 g004 r1 r2) (oc4 (xFF h0) (by decide) h2 (g0 _ _ _ _ _ h3) on) (hk3 _ _ _ _ _ _ _ h)) fun h2 h=>bE h fun r2 h3 h=>tS xE1 (xRV x1 x2 x3 x10 x11 g004 r1 r2) (oc4 (xFF h0) (by decide) h2 (g0 _ _ _ _ _ h3) on) (hk3 _ _ _ _ _ _ _ h)
theorem xLv{N q0}(g0:xKL q0){k3:Int→Int→Int→Bool→Bool→(List Org)→Option ((List Org))}(hk3:∀z0 z1 z2 z3 z4 z5 r,k3 z0 z1 z2 z3 z4 z5=some r→RS Tryz.f107 xCx 3 (xF1 z0 z1 z2 z3 z4 z5) (xAO r)):∀x1 x2 x3 x8 x9 x10 x11 g004 r,xBR N q0 k3 x1 x2 x3 x8 x9 x10 x11 g004=some r→RS Tryz.f107 xCx 18 (xHT x1 x2 x3 x8 x9 x10 x11 g004) (xAO r):=fun x1 x2 x3 x8 x9 x10 x11 g004 r h=>cE h (fun h0 h=>bE h fun r1 h1 h=>cE h (fun h2 h=>bE h fun r2 h3 h=>tS xE1 (xRR x1 x2 x3 x8 x9 x10 x11 g004 r1 r2) (oc4 h0 (xAM h1) h2 (xHg h3) on) (hk3 _ _ _ _ _ _ _ h)) fun h2 h=>tS xE1 (xRS x1 x2 x3 x8 x9 x10 x11 g004 r1) (oc3 h0 (xAM h1) h2 on) (xOR g0 hk3 _ _ _ _ _ _ _ h)) fun h0 h=>tS xE1 (xRT x1 x2 x3 x8 x9 x10 x11 g004) (oc2 h0 rfl on) (xOR g0 hk3 _ _ _ _ _ _ _ h)
theorem xOQ{N q0}(g0:xKL q0){k3:Int→Int→Int→Bool→Bool→(List Org)→Option ((List Org))}(hk3:∀z0 z1 z2 z3 z4 z5 r,k3 z0 z1 z2 z3 z4 z5=some r→RS Tryz.f107 xCx 3 (xF1 z0 z1 z2 z3 z4 z5) (xAO r)):∀x1 x2 x3 x8 x9 x10 x11 x12 g004 r,xCQ N q0 k3 x1 x2 x3 x8 x9 x10 x11 x12 g004=some r→RS Tryz.f107 xCx 16 (xHS x1 x2 x3 x8 x9 x10 x11 x12 g004) (xAO r):=fun x1 x2 x3 x8 x9 x10 x11 x12 g004 r h=>cE h (fun h0 h=>cE h (fun h1 h=>cE h (fun h2 h=>bE h fun r1 h3 h=>cE h (fun h4 h=>dS h xE1 (xRM x1 x2 x3 x8 x9 x10 x11 x12 g004 r1) (oc5 h0 h1 h2 (xEf h3) h4 on)) fun h4 h=>tS xE1 (xRN x1 x2 x3 x8 x9 x10 x11 x12 g004 r1) (oc5 h0 h1 h2 (xEf h3) h4 on) (xLv g0 hk3 _ _ _ _ _ _ _ _ _ h)) fun h2 h=>tS xE1 (xRO x1 x2 x3 x8 x9 x10 x11 x12 g004) (oc3 h0 h1 h2 on) (xLv g0 hk3 _ _ _ _ _ _ _ _ _ h)) fun h1 h=>tS xE1 (xRP x1 x2 x3 x8 x9 x10 x11 x12 g004) (oc3 h0 h1 rfl on) (xLv g0 hk3 _ _ _ _ _ _ _ _ _ h)) fun h0 h=>tS xE1 (xRQ x1 x2 x3 x8 x9 x10 x11 x12 g004) (oc3 h0 rfl rfl on) (xLv g0 hk3 _ _ _ _ _ _ _ _ _ h)
theorem xOP{N q0}(g0:xKL q0){k3:Int→Int→Int→Bool→Bool→(List Org)→Option ((List Org))}(hk3:∀z0 z1 z2 z3 z4 z5 r,k3 z0 z1 z2 z3 z4 z5=some r→RS Tryz.f107 xCx 3 (xF1 z0 z1 z2 z3 z4 z5) (xAO r)):∀x1 x2 x3 x8 x9 x10 g004 r,xCP N q0 k3 x1 x2 x3 x8 x9 x10 g004=some r→RS Tryz.f107 xCx 11 (xKb x1 x2 x3 x8 x9 x10 g004) (xAO r):=fun x1 x2 x3 x8 x9 x10 g004 r h=>bE h fun r1 h0 h=>cE h (fun h1 h=>bE h fun r2 h2 h=>tS xE1 (xP5 x1 x2 x3 x8 x9 x10 g004 r1 r2) (oc3 (xFj h0) h1 (xHL h2) on) (xOQ g0 hk3 _ _ _ _ _ _ _ _ _ _ h)) fun h1 h=>tS xE1 (xP6 x1 x2 x3 x8 x9 x10 g004 r1) (oc2 (xFj h0) h1 on) (xOQ g0 hk3 _ _ _ _ _ _ _ _ _ _ h)
theorem xVc{N q0}(g0:xKL q0):∀n x1 x2 x3 x8 x9 g004 r,xBY N q0 n x1 x2 x3 x8 x9 g004=some r→RS Tryz.f107 xCx 3 (xF1 x1 x2 x3 x8 x9 g004) (xAO r):=by
 intro n
 induction n with
 |zero=>exact fun _ _ _ _ _ _ _ h=>nE h
 |succ n ih=>
  exact fun x1 x2 x3 x8 x9 g004 r h=>cE h (fun h0 h=>bE h fun r1 h1 h=>dS h xE1 (xRW x1 x2 x3 x8 x9 g004 r1) (oc2 h0 (xHu h1) on)) fun h0 h=>cE h (fun h1 h=>bE h fun r1 h2 h=>dS h xE1 (xRX x1 x2 x3 x8 x9 g004 r1) (oc3 h0 h1 (xIj h2) on)) fun h1 h=>cE h (fun h2 h=>bE h fun r1 h3 h=>tS xE1 (xRY x1 x2 x3 x8 x9 g004 r1) (oc4 h0 h1 h2 (xHt h3) on) (xOP g0 ih _ _ _ _ _ _ _ _ h)) fun h2 h=>tS xE1 (xRZ x1 x2 x3 x8 x9 g004) (oc3 h0 h1 h2 on) (xOP g0 ih _ _ _ _ _ _ _ _ h)
theorem xVd{N q0}(g0:xKL q0):∀a0 a1 a2 a3 r,xEc N q0 a0 a1 a2 a3=some r→RE Tryz.f107 xCx (xBX a0 a1 a2 a3) (xAO r):=fun a0 a1 a2 a3 r h=>tE xE1 (xR0 a0 a1 a2 a3) on (xVc g0 _ _ _ _ _ _ _ _ h)
theorem xHK{N q0}(g0:xKL q0){a0}{a1}{a2}{a3}{r}(h:xEc N q0 a0 a1 a2 a3=some r):AbC 107 (xBX a0 a1 a2 a3) (xAO r):=
 AbsCalls.of_reach xE1 rfl rfl rfl (jL rfl) (xVd g0 a0 a1 a2 a3 r h)
theorem xFk{N:Nat}:∀d,xKL (xBS N d)
 |0=>fun _ _ _ _ _ h=>nE h
 |d+1=>fun _ _ _ _ _ h=>xHK (N:=N) (xFk d) h
theorem sort_pdqsort_func_cUnionOrigins_1_ok{N:Nat}{a0:Int}{a1:Int}{a2:Int}{a3:List Org}{r:(List Org)}(h:xEQ N a0 a1 a2 a3=some r):AbC 107 (xBX a0 a1 a2 a3) (xAO r):=xFk N _ _ _ _ r h
end Go.Ab.T
end
section
namespace Go.Ab
def Big(p:Nat→Prop):Prop:=∃k,∀N,k≤N→p N
def Big2(p:Nat→Nat→Prop):Prop:=∃k,∀N n,k≤N→k≤n→p N n
theorem Big.imp{p q:Nat→Prop}(h:Big p)(f:∀N,p N→q N):Big q:=h.elim fun k hk=>⟨k,fun N hN=>f N (hk N hN)⟩
theorem Big2.imp{p q:Nat→Nat→Prop}(h:Big2 p)(f:∀N n,p N n→q N n):Big2 q:=h.elim fun k hk=>⟨k,fun N n h1 h2=>f N n (hk N n h1 h2)⟩
theorem Big.of{p:Nat→Prop}(h:∀N,p N):Big p:=⟨0,fun N _=>h N⟩
theorem Big2.of{p:Nat→Nat→Prop}(h:∀N n,p N n):Big2 p:=⟨0,fun N n _ _=>h N n⟩
theorem Big.and{p q:Nat→Prop}(h:Big p)(h' :Big q):Big fun N=>p N∧q N:=by
 obtain⟨a,ha⟩:=h;obtain⟨b,hb⟩:=h'
 exact⟨max a b,fun N hN=>⟨ha N (by omega),hb N (by omega)⟩⟩
theorem Big2.and{p q:Nat→Nat→Prop}(h:Big2 p)(h' :Big2 q):Big2 fun N n=>p N n∧q N n:=by
 obtain⟨a,ha⟩:=h;obtain⟨b,hb⟩:=h'
 exact⟨max a b,fun N n h1 h2=>⟨ha N n (by omega) (by omega),hb N n (by omega) (by omega)⟩⟩
theorem Big.two{p:Nat→Prop}(h:Big p):Big2 fun N _=>p N:=h.elim fun k hk=>⟨k,fun N _ h _=>hk N h⟩
theorem Big2.diag{p:Nat→Nat→Prop}(h:Big2 p):Big fun N=>p N N:=h.elim fun k hk=>⟨k,fun N h=>hk N N h h⟩
theorem Big2.succ{p:Nat→Nat→Prop}(h:Big2 fun N n=>p N (n+1)):Big2 p:=by
 obtain⟨k,hk⟩:=h
 refine⟨k+1,fun N n h1 h2=> ?_⟩
 obtain⟨m,rfl⟩:∃m,n=m+1:=⟨n - 1,by omega⟩
 exact hk N m (by omega) (by omega)
theorem Big.list{α:Type}{p:α→Nat→Prop}{l:List α}(h:∀x∈l,Big (p x)):Big fun N=>∀x∈l,p x N:=by
 induction l with
 |nil=>exact .of fun N x hx=>by cases hx
 |cons a l ih=>
  refine((h a List.mem_cons_self).and (ih fun x hx=>h x (List.mem_cons_of_mem _ hx))).imp fun N ⟨h1,h2⟩ x hx=> ?_
  rcases List.mem_cons.1 hx with rfl|hx
  ·exact h1
  ·exact h2 x hx
theorem Big2.list{α:Type}{p:α→Nat→Nat→Prop}{l:List α}(h:∀x∈l,Big2 (p x)):Big2 fun N n=>∀x∈l,p x N n:=by
 induction l with
 |nil=>exact .of fun N n x hx=>by cases hx
 |cons a l ih=>
  refine((h a List.mem_cons_self).and (ih fun x hx=>h x (List.mem_cons_of_mem _ hx))).imp fun N n ⟨h1,h2⟩ x hx=> ?_
  rcases List.mem_cons.1 hx with rfl|hx
  ·exact h1
  ·exact h2 x hx
theorem Big.get{p:Nat→Prop}(h:Big p):∃N,p N:=h.elim fun k hk=>⟨k,hk k (Nat.le_refl k)⟩
def I64(x:Int):Prop:= -9223372036854775808≤x∧x≤9223372036854775807
theorem xOr(x:Int):IntKind.i64.wrap x=if x % 18446744073709551616≥9223372036854775808 then x % 18446744073709551616 - 18446744073709551616 else x % 18446744073709551616:=by
 show(if(true&&decide (x % 18446744073709551616≥9223372036854775808))=true then x % 18446744073709551616 - 18446744073709551616 else x % 18446744073709551616)=_
 simp only [Bool.true_and,decide_eq_true_eq]
theorem xFG{x:Int}(h1: -9223372036854775808≤x)(h2:x≤9223372036854775807):IntKind.i64.wrap x=x:=by
 rw [xOr]
 split <;>omega
theorem xOC(x:Int):I64 (IntKind.i64.wrap x):=by
 rw [xOr]
 unfold I64
 split <;>omega
theorem xJK{α:Type}{xs:List α}{i:Nat}{x:α}{l:List α}(h:xs.drop i=x::l):i<xs.length∧xs[i]? =some x∧xs.drop (i+1)=l:=by
 have h1:i<xs.length:=by
  rcases Nat.lt_or_ge i xs.length with h1|h1
  ·exact h1
  ·rw [List.drop_eq_nil_of_le h1] at h;cases h
 rw [List.drop_eq_getElem_cons h1] at h
 cases h
 exact⟨h1,by simp [h1],rfl⟩
theorem xMq{α:Type}{xs:List α}{i:Nat}(h:xs.drop i=[]):xs.length≤i:=by simpa using h
end Go.Ab
end
section
open Go.IntKind (i64)
namespace Go.Ab
open Go.Sort
theorem xWD{a b:Org}:olt a b=true↔a.cell<b.cell∨(a.cell=b.cell∧a.row<b.row):=by
 unfold olt
 by_cases h1:a.cell<b.cell
 ·simp [h1]
 ·by_cases h2:a.cell=b.cell
  ·have:(a.cell==b.cell)=true:=by simpa using h2
   simp [this,h2]
  ·have:(a.cell==b.cell)=false:=by simpa using h2
   simp [h1,h2,this]
theorem xPk{a b:Org}:olt a b=false↔b.cell<a.cell∨(a.cell=b.cell∧b.row≤a.row):=by
 rw [←Bool.not_eq_true,xWD]
 omega
theorem xK6:SWO olt where
 irrefl:=fun x=>xPk.2 (by omega)
 trans:=fun x y z h1 h2=>by rw [xWD] at h1 h2 ⊢;omega
 ntrans:=fun x y z h1 h2=>by rw [xPk] at h1 h2 ⊢;omega
theorem xRo(x y:Org)(h1:olt x y=false)(h2:olt y x=false):x=y:=by
 rw [xPk] at h1 h2
 cases x;cases y
 simp at h1 h2 ⊢
 omega
theorem xPp(N:Nat)(a b:Org):xFa N a b=some (olt a b):=by
 unfold xFa olt
 by_cases h1:a.cell<b.cell
 ·simp [h1]
 ·cases h2:(a.cell==b.cell) <;>simp [h1]
theorem xUJ{d:Array Org}{i:Nat}(hi:i<d.size):d.toList.getD (Int.toNat (i:Int)) Ty.org.dflt=d[i]! :=by
 rw [Int.toNat_natCast,List.getD_eq_getElem?_getD]
 simp [hi]
theorem vCB(N:Nat){i j:Nat}{d:Array Org}(hi:i<d.size)(hj:j<d.size):xBh N (i:Int) (j:Int) d.toList=some (olt d[i]! d[j]!,d.toList):=by
 unfold xBh
 rw [if_pos ⟨Int.natCast_nonneg _,by simpa using hi⟩,if_pos ⟨Int.natCast_nonneg _,by simpa using hj⟩,xPp,xUJ hi,xUJ hj]
 rfl
theorem vHb(N:Nat){i j:Nat}{d:Array Org}(hi:i<d.size)(hj:j<d.size):xAJ N (i:Int) (j:Int) d.toList=some (swp d i j).toList:=by
 unfold xAJ zI8
 rw [if_pos ⟨Int.natCast_nonneg _,by simpa using hi,Int.natCast_nonneg _,by simpa using hj⟩]
 rfl
theorem wn{x:Int}(n:Nat)(h:x=n)(hn:n<9223372036854775808):i64.wrap x=(n:Int):=by rw [h];exact xFG (by omega) (by omega)
theorem xGD{β:Type}(N:Nat){x y:Int}{i j:Nat}{d:Array Org}(hx:x=i)(hy:y=j)(hi:i<d.size)(hj:j<d.size)(k:Bool×List Org→Option β):
 Option.bind (xBh N x y d.toList) k=k (olt d[i]! d[j]!,d.toList):=by rw [hx,hy,vCB N hi hj];rfl
theorem xE6{β:Type}(N:Nat){x y:Int}{i j:Nat}{d:Array Org}(hx:x=i)(hy:y=j)(hi:i<d.size)(hj:j<d.size)(h2:2≤d.size)(k:List Org→Option β):
 (Option.bind (xAJ N x y d.toList) fun r=>if 2≤List.length d.toList then if List.length r=List.length d.toList then k r else none else none)=k (swp d i j).toList:=by
 rw [hx,hy,vHb N hi hj]
 show(if 2≤List.length d.toList then if List.length (swp d i j).toList=List.length d.toList then k (swp d i j).toList else none else none)=_
 rw [if_pos (by simpa using h2),if_pos (by simp [swp])]
theorem xDe{d:Array Org}{i j:Nat}:(swp d i j).size=d.size:=by simp [swp]
theorem xKJ(lt:Org→Org→Bool)(a:Nat):∀(j:Nat) (d:Array Org),(insInner lt a j d).size=d.size
 |0,d=>rfl
 |j+1,d=>by
  unfold insInner
  split
  ·rw [xKJ lt a j,xDe]
  ·rfl
theorem ins5(N:Nat)(k:Int→Int→Int→List Org→Option (List Org)){a b i:Nat}(hi:i<4611686018427387904):∀(j n:Nat) (d:Array Org),j<d.size→2≤d.size→d.size<4611686018427387904→j<n→
 xBP N k n (a:Int) (b:Int) (i:Int) (j:Int) d.toList=k (a:Int) (b:Int) ((i+1:Nat):Int) (insInner olt a j d).toList
 |0,n,d,hj,h2,hs,hn=>by
  obtain⟨n,rfl⟩:∃m,n=m+1:=⟨n - 1,by omega⟩
  have e:(decide (((0:Nat):Int)>(a:Int)))=false:=decide_eq_false (by omega)
  rw [xBP,e,cond_false,wn (i+1) (by omega) (by omega)]
  rfl
 |j+1,n,d,hj,h2,hs,hn=>by
  obtain⟨n,rfl⟩:∃m,n=m+1:=⟨n - 1,by omega⟩
  rw [xBP,insInner]
  by_cases ha:j+1>a
  ·have e:(decide (((j+1:Nat):Int)>(a:Int)))=true:=decide_eq_true (by omega)
   rw [e,cond_true,wn (n:=j) (by omega) (by omega),xGD N rfl rfl hj (by omega)]
   dsimp only
   cases hl:olt d[j+1]! d[j]! with
   |true=>
    rw [jT,xE6 N rfl rfl hj (by omega) h2,ins5 N k hi j n _ (by rw [xDe];omega) (by rw [xDe];exact h2) (by rw [xDe];exact hs) (by omega)]
    rw [if_pos (by simp [ha])]
   |false=>
    rw [jF,wn (i+1) (by omega) (by omega),if_neg (by simp)]
  ·have e:(decide (((j+1:Nat):Int)>(a:Int)))=false:=decide_eq_false (by omega)
   rw [e,cond_false,wn (i+1) (by omega) (by omega),if_neg (by simp [ha])]
theorem ins2(N:Nat){a b:Nat}:∀(m i n:Nat) (d:Array Org),b - i=m→b≤d.size→2≤d.size→d.size<4611686018427387904→i<4611686018427387904→m<n→d.size<N→
 xBO N n (a:Int) (b:Int) (i:Int) d.toList=some (insOuter olt a b i d).toList:=by
 intro m
 induction m with
 |zero=>
  intro i n d hm hb h2 hs hi hn hN
  obtain⟨n,rfl⟩:∃m,n=m+1:=⟨n - 1,by omega⟩
  have e:(decide ((i:Int)<(b:Int)))=false:=decide_eq_false (by omega)
  rw [xBO,e,cond_false,insOuter,if_neg (by omega)]
 |succ m ih=>
  intro i n d hm hb h2 hs hi hn hN
  obtain⟨n,rfl⟩:∃m,n=m+1:=⟨n - 1,by omega⟩
  have e:(decide ((i:Int)<(b:Int)))=true:=decide_eq_true (by omega)
  rw [xBO,e,cond_true,ins5 N _ hi i N d (by omega) h2 hs (by omega),insOuter,if_pos (by omega)]
  exact ih (i+1) n _ (by omega) (by rw [xKJ];exact hb) (by rw [xKJ];exact h2) (by rw [xKJ];exact hs) (by omega) (by omega) (by rw [xKJ];exact hN)
theorem vIy(N:Nat){a b:Nat}{d:Array Org}(hab:a≤b)(hb:b≤d.size)(h2:2≤d.size)(hs:d.size<1152921504606846976)(hN:d.size<N):
 xCw N (a:Int) (b:Int) d.toList=some (insertionSort olt d a b).toList:=by
 unfold xCw insertionSort
 rw [wn (a+1) (by omega) (by omega)]
 exact ins2 N _ _ N d rfl hb h2 (by omega) (by omega) (by omega) hN
theorem vG8(N:Nat){hi first:Nat}(x:Int):∀(m root n:Nat) (d:Array Org),hi - root=m→root≤hi→first+hi≤d.size→2≤d.size→d.size<1152921504606846976→m<n→
 xBB N n (hi:Int) (first:Int) (root:Int) d.toList=some (siftDown olt hi first root d).toList∧(siftDown olt hi first root d).size=d.size:=by
 intro m
 induction m using Nat.strongRecOn with
 |_ m ih=>
  intro root n d hm hr hf h2 hs hn
  obtain⟨n,rfl⟩:∃m,n=m+1:=⟨n - 1,by omega⟩
  have w1:i64.wrap (i64.wrap (2*(root:Int))+1)=((2*root+1:Nat):Int):=by
   have e:i64.wrap (2*(root:Int))=((2*root:Nat):Int):=wn _ (by omega) (by omega)
   rw [e];exact wn _ (by omega) (by omega)
  have w2:i64.wrap (((2*root+1:Nat):Int)+1)=((2*root+2:Nat):Int):=wn _ (by omega) (by omega)
  rw [xBB,siftDown,w1,w2]
  by_cases hc:2*root+1≥hi
  ·have e:(decide (((2*root+1:Nat):Int)≥(hi:Int)))=true:=decide_eq_true (by omega)
   rw [e,cond_true,dif_pos hc]
   exact⟨rfl,rfl⟩
  ·have e:(decide (((2*root+1:Nat):Int)≥(hi:Int)))=false:=decide_eq_false (by omega)
   rw [e,cond_false,dif_neg hc]
   have w3:i64.wrap ((first:Int)+((2*root+1:Nat):Int))=((first+(2*root+1):Nat):Int):=wn _ (by omega) (by omega)
   have w4:i64.wrap (((first+(2*root+1):Nat):Int)+1)=((first+(2*root+1)+1:Nat):Int):=wn _ (by omega) (by omega)
   have w5:i64.wrap ((first:Int)+(root:Int))=((first+root:Nat):Int):=wn _ (by omega) (by omega)
   rw [w3,w4,w5]
   have one:∀(c:Nat),c<hi→root<c→(Option.bind (xBh N ((first+root:Nat):Int) ((first+c:Nat):Int) d.toList) fun r2=>
    bif(!r2.1) then some r2.2 else
     Option.bind (xAJ N ((first+root:Nat):Int) ((first+c:Nat):Int) r2.2) fun r3=>
     if 2≤List.length r2.2 then
     if List.length r3=List.length r2.2 then
     (xBB N n (hi:Int) (first:Int) (c:Int) r3)
     else none
     else none)=some (if !olt d[first+root]! d[first+c]! then d else siftDown olt hi first c (swp d (first+root) (first+c))).toList∧
    (if !olt d[first+root]! d[first+c]! then d else siftDown olt hi first c (swp d (first+root) (first+c))).size=d.size:=by
    intro c hc1 hc2
    rw [xGD N rfl rfl (by omega) (by omega)]
    dsimp only
    cases hl:olt d[first+root]! d[first+c]! with
    |false=>exact⟨rfl,rfl⟩
    |true=>
     have:=ih (hi - c) (by omega) c n (swp d (first+root) (first+c)) rfl (by omega) (by rw [xDe];exact hf) (by rw [xDe];exact h2) (by rw [xDe];exact hs) (by omega)
     rw [Bool.not_true,cond_false,xE6 N rfl rfl (by omega) (by omega) h2]
     rw [xDe] at this
     exact this
   by_cases hd:2*root+1+1<hi
   ·have e:(decide (((2*root+2:Nat):Int)<(hi:Int)))=true:=decide_eq_true (by omega)
    have w6:i64.wrap ((first:Int)+((2*root+2:Nat):Int))=((first+(2*root+2):Nat):Int):=wn _ (by omega) (by omega)
    rw [e,cond_true,xGD N rfl rfl (by omega) (by omega),w6]
    dsimp only
    cases hl:olt d[first+(2*root+1)]! d[first+(2*root+1)+1]! with
    |true=>
     rw [jT]
     have:=one (2*root+2) (by omega) (by omega)
     rw [if_pos (by simp [hd]),dif_pos (by omega:2*root+2<hi)]
     exact this
    |false=>
     rw [jF]
     have:=one (2*root+1) (by omega) (by omega)
     rw [if_neg (by simp)]
     exact this
   ·have e:(decide (((2*root+2:Nat):Int)<(hi:Int)))=false:=decide_eq_false (by omega)
    rw [e,cond_false,if_neg (by simp [hd])]
    exact one (2*root+1) (by omega) (by omega)
end Go.Ab
end
section
open Go.IntKind (i64)
namespace Go.Ab
open Go.Sort
theorem xUW(N:Nat){hi first root:Nat}{d:Array Org}(hr:root≤hi)(hf:first+hi≤d.size)(h2:2≤d.size)(hs:d.size<1152921504606846976)(hN:d.size<N):
 xB8 N (root:Int) (hi:Int) (first:Int) d.toList=some (siftDown olt hi first root d).toList∧(siftDown olt hi first root d).size=d.size:=by
 unfold xB8
 exact vG8 N 0 _ root N d rfl hr hf h2 hs (by omega)
theorem vIx(N:Nat){first:Nat}(z:Int):∀(k n:Nat) (d:Array Org),first+k≤d.size→2≤d.size→d.size<1152921504606846976→k<n→d.size<N→
 xCi N n (first:Int) 0 ((k:Int) - 1) d.toList=some (heapPop olt first k d).toList
 |0,n,d,hf,h2,hs,hn,hN=>by
  obtain⟨n,rfl⟩:∃m,n=m+1:=⟨n - 1,by omega⟩
  have e:(decide (((0:Nat):Int) - 1≥0))=false:=decide_eq_false (by omega)
  rw [xCi,e,cond_false]
  rfl
 |k+1,n,d,hf,h2,hs,hn,hN=>by
  obtain⟨n,rfl⟩:∃m,n=m+1:=⟨n - 1,by omega⟩
  have e:(decide (((k+1:Nat):Int) - 1≥0))=true:=decide_eq_true (by omega)
  have e1:((k+1:Nat):Int) - 1=(k:Int):=by omega
  have w:i64.wrap ((first:Int)+(k:Int))=((first+k:Nat):Int):=wn _ (by omega) (by omega)
  have w2:i64.wrap ((k:Int) - 1)=(k:Int) - 1:=xFG (by omega) (by omega)
  rw [xCi,e,cond_true,e1,w,xE6 N rfl rfl (by omega) (by omega) h2,w2]
  obtain⟨s1,s2⟩:=xUW N (hi:=k) (first:=first) (root:=0) (d:=swp d first (first+k)) (by omega) (by rw [xDe];omega) (by rw [xDe];exact h2) (by rw [xDe];exact hs) (by rw [xDe];exact hN)
  have s1:xB8 N 0 (k:Int) (first:Int) (swp d first (first+k)).toList=_:=s1
  rw [s1,heapPop]
  exact vIx N z k n _ (by rw [s2,xDe];omega) (by rw [s2,xDe];exact h2) (by rw [s2,xDe];exact hs) (by omega) (by rw [s2,xDe];exact hN)
theorem vIw(N:Nat){first hi:Nat}:∀(k n:Nat) (d:Array Org),k≤hi+1→first+hi≤d.size→2≤d.size→d.size<1152921504606846976→k<n→d.size<N→
 xCh N n (first:Int) 0 (hi:Int) ((k:Int) - 1) d.toList=some (heapPop olt first hi (heapBuild olt hi first k d)).toList
 |0,n,d,hk,hf,h2,hs,hn,hN=>by
  obtain⟨n,rfl⟩:∃m,n=m+1:=⟨n - 1,by omega⟩
  have e:(decide (((0:Nat):Int) - 1≥0))=false:=decide_eq_false (by omega)
  have w2:i64.wrap ((hi:Int) - 1)=(hi:Int) - 1:=xFG (by omega) (by omega)
  rw [xCh,e,cond_false,w2]
  exact vIx N 0 hi N d hf h2 hs (by omega) hN
 |k+1,n,d,hk,hf,h2,hs,hn,hN=>by
  obtain⟨n,rfl⟩:∃m,n=m+1:=⟨n - 1,by omega⟩
  have e:(decide (((k+1:Nat):Int) - 1≥0))=true:=decide_eq_true (by omega)
  have e1:((k+1:Nat):Int) - 1=(k:Int):=by omega
  have w2:i64.wrap ((k:Int) - 1)=(k:Int) - 1:=xFG (by omega) (by omega)
  rw [xCh,e,cond_true,e1,w2]
  obtain⟨s1,s2⟩:=xUW N (hi:=hi) (first:=first) (root:=k) (d:=d) (by omega) hf h2 hs hN
  rw [s1,heapBuild]
  exact vIw N k n _ (by omega) (by rw [s2];exact hf) (by rw [s2];exact h2) (by rw [s2];exact hs) (by omega) (by rw [s2];exact hN)
theorem vCw(N:Nat){a b:Nat}{d:Array Org}(hab:a<b)(hb:b≤d.size)(h2:2≤d.size)(hs:d.size<1152921504606846976)(hN:d.size+1<N):
 xDd N (a:Int) (b:Int) d.toList=some (heapSort olt d a b).toList:=by
 unfold xDd heapSort
 have w1:i64.wrap ((b:Int) - (a:Int))=((b - a:Nat):Int):=wn _ (by omega) (by omega)
 have w2:i64.wrap (((b - a:Nat):Int) - 1)=((b - a - 1:Nat):Int):=wn _ (by omega) (by omega)
 have w3:i64.wrap (Int.tdiv ((b - a - 1:Nat):Int) 2)=(((b - a - 1) / 2+1:Nat):Int) - 1:=by
  have:Int.tdiv ((b - a - 1:Nat):Int) 2=(((b - a - 1) / 2:Nat):Int):=rfl
  rw [this,wn ((b - a - 1) / 2) rfl (by omega)]
  omega
 rw [w1,w2,w3]
 exact vIw N _ N d (by omega) (by omega) h2 hs (by omega) (by omega)
theorem rev3(N:Nat):∀(m i j n:Nat) (d:Array Org),j - i≤m→i<d.size→j<d.size→2≤d.size→d.size<1152921504606846976→m<n→
 xBV N n (i:Int) (j:Int) d.toList=some (reverseLoop i j d).toList:=by
 intro m
 induction m with
 |zero=>
  intro i j n d hm hi hj h2 hs hn
  obtain⟨n,rfl⟩:∃m,n=m+1:=⟨n - 1,by omega⟩
  have e:(decide ((i:Int)<(j:Int)))=false:=decide_eq_false (by omega)
  rw [xBV,e,cond_false,reverseLoop,if_neg (by omega)]
 |succ m ih=>
  intro i j n d hm hi hj h2 hs hn
  obtain⟨n,rfl⟩:∃m,n=m+1:=⟨n - 1,by omega⟩
  rw [xBV,reverseLoop]
  by_cases h:i<j
  ·have e:(decide ((i:Int)<(j:Int)))=true:=decide_eq_true (by omega)
   have w1:i64.wrap ((i:Int)+1)=((i+1:Nat):Int):=wn _ (by omega) (by omega)
   have w2:i64.wrap ((j:Int) - 1)=((j - 1:Nat):Int):=wn _ (by omega) (by omega)
   rw [e,cond_true,xE6 N rfl rfl hi hj h2,if_pos h,w1,w2]
   exact ih (i+1) (j - 1) n _ (by omega) (by rw [xDe];omega) (by rw [xDe];omega) (by rw [xDe];exact h2) (by rw [xDe];exact hs) (by omega)
  ·have e:(decide ((i:Int)<(j:Int)))=false:=decide_eq_false (by omega)
   rw [e,cond_false,if_neg h]
theorem vIZ(N:Nat){a b:Nat}{d:Array Org}(hab:a<b)(hb:b≤d.size)(h2:2≤d.size)(hs:d.size<1152921504606846976)(hN:d.size<N):
 xCD N (a:Int) (b:Int) d.toList=some (reverseRange d a b).toList:=by
 unfold xCD reverseRange
 have w2:i64.wrap ((b:Int) - 1)=((b - 1:Nat):Int):=wn _ (by omega) (by omega)
 rw [w2]
 exact rev3 N _ a (b - 1) N d (Nat.le_refl _) (by omega) (by omega) h2 hs (by omega)
theorem xMl{p:Org→Bool}{d:Array Org}{j i:Nat}(h:i≤j)(hp:p d[i]! =true):scanUp p d j i=scanUp p d j (i+1):=by
 rw [scanUp,if_pos (by simp [h,hp])]
theorem xIQ{p:Org→Bool}{d:Array Org}{j i:Nat}(h:¬(i≤j∧p d[i]! =true)):scanUp p d j i=i:=by
 rw [scanUp,if_neg (by simpa using h)]
theorem xKw{p:Org→Bool}{d:Array Org}{j i:Nat}(h:i≤j+1)(hp:p d[j+1]! =true):scanDown p d i (j+1)=scanDown p d i j:=by
 rw [scanDown,if_pos (by simp [h,hp])]
theorem xG9{p:Org→Bool}{d:Array Org}{j i:Nat}(h:¬(i≤j+1∧p d[j+1]! =true)):scanDown p d i (j+1)=j+1:=by
 rw [scanDown,if_neg (by simpa using h)]
abbrev pUp(d:Array Org)(a:Nat):Org→Bool:=fun x=>olt x d[a]!
abbrev pDn(d:Array Org)(a:Nat):Org→Bool:=fun x=> !olt x d[a]!
theorem xTv{p:Org→Bool}{d:Array Org}:∀(m i j:Nat),j+1 - i=m→i≤j+1→i≤scanUp p d j i∧scanUp p d j i≤j+1:=by
 intro m
 induction m with
 |zero=>intro i j hm hi;rw [xIQ (by omega)];omega
 |succ m ih=>
  intro i j hm hi
  by_cases h:i≤j∧p d[i]! =true
  ·rw [xMl h.1 h.2]
   have:=ih (i+1) j (by omega) (by omega)
   omega
  ·rw [xIQ h];omega
theorem xJw{p:Org→Bool}{d:Array Org}{i:Nat}(hi:0<i):∀(j:Nat),i≤j+1→i≤scanDown p d i j+1∧scanDown p d i j≤j
 |0,h=>by simp [scanDown];omega
 |j+1,h=>by
  by_cases h2:i≤j+1∧p d[j+1]! =true
  ·rw [xKw h2.1 h2.2]
   have:=xJw (p:=p) (d:=d) hi j (by omega)
   omega
  ·rw [xG9 h2];omega
theorem xJ5{p:Org→Bool}{d:Array Org}{i:Nat}(hi:0<i):∀(j:Nat),i≤j+1→i≤scanDown p d i j→p d[scanDown p d i j]! =false
 |0,h,h3=>by simp [scanDown] at h3;omega
 |j+1,h,h3=>by
  by_cases h2:i≤j+1∧p d[j+1]! =true
  ·rw [xKw h2.1 h2.2] at h3 ⊢
   exact xJ5 hi j (by omega) h3
  ·rw [xG9 h2] at h3 ⊢
   cases hp:p d[j+1]! with
   |false=>rfl
   |true=>exact absurd ⟨h3,hp⟩ h2
theorem xUz{p:Org→Bool}{d:Array Org}:∀(m i j:Nat),j+1 - i=m→scanUp p d j i≤j→p d[scanUp p d j i]! =false:=by
 intro m
 induction m with
 |zero=>intro i j hm h;rw [xIQ (by omega)] at h;omega
 |succ m ih=>
  intro i j hm h
  by_cases h2:i≤j∧p d[i]! =true
  ·rw [xMl h2.1 h2.2] at h ⊢
   exact ih (i+1) j (by omega) h
  ·rw [xIQ h2] at h ⊢
   cases hp:p d[i]! with
   |false=>rfl
   |true=>exact absurd ⟨h,hp⟩ h2
theorem vCd(N:Nat)(k:Int→Int→Int→List Org→Option (Int×Bool×List Org)){a i:Nat}:∀(j n:Nat) (d:Array Org),a<i→i≤j+1→j<d.size→2≤d.size→d.size<1152921504606846976→j<n→
 xBu N k n (a:Int) (i:Int) (j:Int) d.toList=
  (if i>scanDown (pDn d a) d i j then some (((scanDown (pDn d a) d i j:Nat):Int),false,(swp d (scanDown (pDn d a) d i j) a).toList)
   else k (a:Int) ((i+1:Nat):Int) ((scanDown (pDn d a) d i j - 1:Nat):Int) (swp d i (scanDown (pDn d a) d i j)).toList)
 |0,n,d,ha,hij,hj,h2,hs,hn=>by
  obtain⟨n,rfl⟩:∃m,n=m+1:=⟨n - 1,by omega⟩
  have e:(decide ((i:Int)≤((0:Nat):Int)))=false:=decide_eq_false (by omega)
  have e2:(decide ((i:Int)>((0:Nat):Int)))=true:=decide_eq_true (by omega)
  rw [xBu,e,cond_false,e2,cond_true,xE6 N rfl rfl hj (by omega) h2,scanDown,if_pos (by omega)]
 |j+1,n,d,ha,hij,hj,h2,hs,hn=>by
  obtain⟨n,rfl⟩:∃m,n=m+1:=⟨n - 1,by omega⟩
  have wi:i64.wrap ((i:Int)+1)=((i+1:Nat):Int):=wn _ (by omega) (by omega)
  have wj:i64.wrap (((j+1:Nat):Int) - 1)=((j:Nat):Int):=wn _ (by omega) (by omega)
  rw [xBu,wi,wj]
  by_cases h:i≤j+1
  ·have e:(decide ((i:Int)≤((j+1:Nat):Int)))=true:=decide_eq_true (by omega)
   have e2:(decide ((i:Int)>((j+1:Nat):Int)))=false:=decide_eq_false (by omega)
   rw [e,cond_true,xGD N rfl rfl hj (by omega),e2,cond_false]
   dsimp only
   cases hl:olt d[j+1]! d[a]! with
   |false=>
    rw [Bool.not_false,cond_true,vCd N k j n d ha (by omega) (by omega) h2 hs (by omega),xKw (p:=pDn d a) h (by simp [pDn,hl])]
   |true=>
    rw [Bool.not_true,cond_false,xE6 N rfl rfl (by omega) hj h2,xG9 (p:=pDn d a) (by simp [pDn,hl]),if_neg (by omega)]
    rfl
  ·have e:(decide ((i:Int)≤((j+1:Nat):Int)))=false:=decide_eq_false (by omega)
   have e2:(decide ((i:Int)>((j+1:Nat):Int)))=true:=decide_eq_true (by omega)
   rw [e,cond_false,e2,cond_true,xE6 N rfl rfl hj (by omega) h2,xG9 (p:=pDn d a) (by omega),if_pos (by omega)]
theorem vIS(N:Nat){a:Nat}:∀(m i j n:Nat) (d:Array Org),j+1 - i=m→a<i→i≤j+1→j<d.size→2≤d.size→d.size<1152921504606846976→m<n→d.size<N→
 xBa N n (a:Int) (i:Int) (j:Int) d.toList=some (((partLoop olt a i j d).1:Int),false,(swp (partLoop olt a i j d).2 (partLoop olt a i j d).1 a).toList):=by
 intro m
 induction m using Nat.strongRecOn with
 |_ m ih=>
  intro i j n d hm ha hij hj h2 hs hn hN
  obtain⟨n,rfl⟩:∃m,n=m+1:=⟨n - 1,by omega⟩
  have wi:i64.wrap ((i:Int)+1)=((i+1:Nat):Int):=wn _ (by omega) (by omega)
  rw [xBa,wi]
  have stop:∀(hc:¬(i≤j∧pUp d a d[i]! =true)),xBu N (fun z0 z1 z2 z3=>(xBa N n z0 z1 z2 z3)) N (a:Int) (i:Int) (j:Int) d.toList=
   some (((partLoop olt a i j d).1:Int),false,(swp (partLoop olt a i j d).2 (partLoop olt a i j d).1 a).toList):=by
   intro hc
   rw [vCd N _ j N d ha hij hj h2 hs (by omega),partLoop_eq,xIQ (p:=pUp d a) hc]
   have hb:=xJw (p:=pDn d a) (d:=d) (by omega:0<i) j hij
   split
   ·rfl
   ·rename_i hg
    have hne:i≠scanDown (pDn d a) d i j:=by
     intro e
     have h1:=xJ5 (p:=pDn d a) (d:=d) (by omega:0<i) j hij (by omega)
     rw [←e] at h1
     have h2:pUp d a d[i]! =true:=by simpa [pDn,pUp] using h1
     exact hc ⟨by omega,h2⟩
    exact ih (scanDown (pDn d a) d i j - 1+1 - (i+1)) (by omega) (i+1) (scanDown (pDn d a) d i j - 1) n _ rfl (by omega) (by omega) (by rw [xDe];omega) (by rw [xDe];exact h2) (by rw [xDe];exact hs) (by omega) (by rw [xDe];exact hN)
  by_cases h:i≤j
  ·have e:(decide ((i:Int)≤(j:Int)))=true:=decide_eq_true (by omega)
   rw [e,cond_true,xGD N rfl rfl (by omega) (by omega)]
   dsimp only
   cases hl:olt d[i]! d[a]! with
   |true=>
    rw [jT,ih (m - 1) (by omega) (i+1) j n d (by omega) (by omega) (by omega) hj h2 hs (by omega) hN]
    have:partLoop olt a i j d=partLoop olt a (i+1) j d:=by
     rw [partLoop_eq,partLoop_eq (i:=i+1),xMl (p:=pUp d a) h (by simp [pUp,hl])]
    rw [this]
   |false=>rw [jF];exact stop (by simp [pUp,hl])
  ·have e:(decide ((i:Int)≤(j:Int)))=false:=decide_eq_false (by omega)
   rw [e,cond_false];exact stop (by omega)
theorem vIT(N:Nat){a i:Nat}:∀(j n:Nat) (d:Array Org),a<i→i≤j+1→j<d.size→2≤d.size→d.size<1152921504606846976→j<n→
 xBy N n (a:Int) (i:Int) (j:Int) d.toList=
  (if i>scanDown (pDn d a) d i j then some (((scanDown (pDn d a) d i j:Nat):Int),true,(swp d (scanDown (pDn d a) d i j) a).toList)
   else xBa N N (a:Int) ((i+1:Nat):Int) ((scanDown (pDn d a) d i j - 1:Nat):Int) (swp d i (scanDown (pDn d a) d i j)).toList)
 |0,n,d,ha,hij,hj,h2,hs,hn=>by
  obtain⟨n,rfl⟩:∃m,n=m+1:=⟨n - 1,by omega⟩
  have e:(decide ((i:Int)≤((0:Nat):Int)))=false:=decide_eq_false (by omega)
  have e2:(decide ((i:Int)>((0:Nat):Int)))=true:=decide_eq_true (by omega)
  rw [xBy,e,cond_false,e2,cond_true,xE6 N rfl rfl hj (by omega) h2,scanDown,if_pos (by omega)]
 |j+1,n,d,ha,hij,hj,h2,hs,hn=>by
  obtain⟨n,rfl⟩:∃m,n=m+1:=⟨n - 1,by omega⟩
  have wi:i64.wrap ((i:Int)+1)=((i+1:Nat):Int):=wn _ (by omega) (by omega)
  have wj:i64.wrap (((j+1:Nat):Int) - 1)=((j:Nat):Int):=wn _ (by omega) (by omega)
  rw [xBy,wi,wj]
  by_cases h:i≤j+1
  ·have e:(decide ((i:Int)≤((j+1:Nat):Int)))=true:=decide_eq_true (by omega)
   have e2:(decide ((i:Int)>((j+1:Nat):Int)))=false:=decide_eq_false (by omega)
   rw [e,cond_true,xGD N rfl rfl hj (by omega),e2,cond_false]
   dsimp only
   cases hl:olt d[j+1]! d[a]! with
   |false=>
    rw [Bool.not_false,cond_true,vIT N j n d ha (by omega) (by omega) h2 hs (by omega),xKw (p:=pDn d a) h (by simp [pDn,hl])]
   |true=>
    rw [Bool.not_true,cond_false,xE6 N rfl rfl (by omega) hj h2,xG9 (p:=pDn d a) (by simp [pDn,hl]),if_neg (by omega)]
    rfl
  ·have e:(decide ((i:Int)≤((j+1:Nat):Int)))=false:=decide_eq_false (by omega)
   have e2:(decide ((i:Int)>((j+1:Nat):Int)))=true:=decide_eq_true (by omega)
   rw [e,cond_false,e2,cond_true,xE6 N rfl rfl hj (by omega) h2,xG9 (p:=pDn d a) (by omega),if_pos (by omega)]
theorem vKr(N:Nat){a j:Nat}:∀(m i n:Nat) (d:Array Org),j+1 - i=m→a<i→i≤j+1→j<d.size→2≤d.size→d.size<1152921504606846976→m<n→d.size<N→
 xCa N n (a:Int) (i:Int) (j:Int) d.toList=xBy N N (a:Int) ((scanUp (pUp d a) d j i:Nat):Int) (j:Int) d.toList:=by
 intro m
 induction m with
 |zero=>
  intro i n d hm ha hij hj h2 hs hn hN
  obtain⟨n,rfl⟩:∃m,n=m+1:=⟨n - 1,by omega⟩
  have e:(decide ((i:Int)≤(j:Int)))=false:=decide_eq_false (by omega)
  rw [xCa,e,cond_false,xIQ (by omega)]
 |succ m ih=>
  intro i n d hm ha hij hj h2 hs hn hN
  obtain⟨n,rfl⟩:∃m,n=m+1:=⟨n - 1,by omega⟩
  have wi:i64.wrap ((i:Int)+1)=((i+1:Nat):Int):=wn _ (by omega) (by omega)
  have e:(decide ((i:Int)≤(j:Int)))=true:=decide_eq_true (by omega)
  rw [xCa,wi,e,cond_true,xGD N rfl rfl (by omega) (by omega)]
  dsimp only
  cases hl:olt d[i]! d[a]! with
  |true=>rw [jT,ih (i+1) n d (by omega) (by omega) (by omega) hj h2 hs (by omega) hN,xMl (p:=pUp d a) (i:=i) (j:=j) (by omega) (by simp [pUp,hl])]
  |false=>rw [jF,xIQ (p:=pUp d a) (by simp [pUp,hl])]
theorem vG5(N:Nat){a b pivot:Nat}{d:Array Org}(hp1:a≤pivot)(hp2:pivot<b)(hb:b≤d.size)(hab:a+1<b)(h2:2≤d.size)(hs:d.size<1152921504606846976)(hN:d.size<N):
 xC6 N (a:Int) (b:Int) (pivot:Int) d.toList=some (((partition olt d a b pivot).1:Int),(partition olt d a b pivot).2.1,(partition olt d a b pivot).2.2.toList):=by
 have wa:i64.wrap ((a:Int)+1)=((a+1:Nat):Int):=wn _ (by omega) (by omega)
 have wb:i64.wrap ((b:Int) - 1)=((b - 1:Nat):Int):=wn _ (by omega) (by omega)
 have hs1:(swp d a pivot).size=d.size:=xDe
 unfold xC6 partition
 rw [xE6 N rfl rfl (by omega) (by omega) h2,wa,wb]
 generalize swp d a pivot=d1 at hs1
 have hu:=xTv (p:=pUp d1 a) (d:=d1) _ (a+1) (b - 1) rfl (by omega)
 rw [vKr N _ (a+1) N d1 rfl (by omega) (by omega) (by omega) (by omega) (by omega) (by omega) (by omega),vIT N (b - 1) N d1 (by omega) (by omega) (by omega) (by omega) (by omega) (by omega)]
 have hd:=xJw (p:=pDn d1 a) (d:=d1) (i:=scanUp (pUp d1 a) d1 (b - 1) (a+1)) (by omega) (b - 1) (by omega)
 dsimp only
 by_cases hc:scanUp (pUp d1 a) d1 (b - 1) (a+1)>scanDown (pDn d1 a) d1 (scanUp (pUp d1 a) d1 (b - 1) (a+1)) (b - 1)
 ·rw [if_pos hc,if_pos hc]
 ·have hne:scanUp (pUp d1 a) d1 (b - 1) (a+1)≠scanDown (pDn d1 a) d1 (scanUp (pUp d1 a) d1 (b - 1) (a+1)) (b - 1):=by
   intro e
   have h1:=xJ5 (p:=pDn d1 a) (d:=d1) (i:=scanUp (pUp d1 a) d1 (b - 1) (a+1)) (by omega) (b - 1) (by omega) (by omega)
   rw [←e] at h1
   have h2:=xUz (p:=pUp d1 a) (d:=d1) _ (a+1) (b - 1) rfl (by omega)
   simp only [pDn,pUp] at h1 h2
   rw [h2] at h1
   cases h1
  rw [if_neg hc,if_neg hc]
  exact vIS N _ _ _ N _ rfl (by omega) (by omega) (by rw [xDe];omega) (by rw [xDe];omega) (by rw [xDe];omega) (by omega) (by rw [xDe];omega)
end Go.Ab
end
