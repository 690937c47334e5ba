/- The statement FnOrigins holds: plain functions, certificates, laws. Conditions: none. -/
import Derived.LaidMore
import Derived.Lay
import Derived.Lib.LaidTab
import Derived.Maps.AppendAt
import Derived.Maps.OwnSet
import Derived.OpenVars
import Derived.SevenTiedAt
import Derived.Shelf.GgSortFunc.Slice
import Derived.Shelf.GgSortFunc.Tiny
import Derived.Shelf.Small.Bits
import Derived.Shelf.Small.Strs
import Derived.Shelf.Strconv.Itoa3
import Derived.Shelf.Strings.OnBuilder
import Derived.Shelf.Strings.Prefix
import Derived.Shelf.Strings.Search1
import Derived.Shelf.Strings.Split
import Derived.Sort.AssemblyPlain
import Derived.Stop.Joined
import Derived.Stop.LaidErr
import Derived.Test.YtchkdijelkdpaaaGreatDoorCards
import Derived.Test.YtchkdijelkdpaaaGreatDoorChecked
import Derived.Test.YtchkdijelkdpaaaGreatDoorProg
import Derived.Test.YtchkdijelkdpaaaGreatDoorRows
import Derived.Test.YtchkdijelkdpaaaGreatDoorTie
import Derived.WalkKit
import Derived.Test.YtchkdijelkdpaaaGreatDoorL2
set_option linter.all false
section
namespace Go.Ab
abbrev Cu(f:Fl)(e:Cur):List CV:=[.sl f .byte (Cur.b e),.int .i64 (Cur.i e),.int .i64 (Cur.h e)]
abbrev Va(f:Fl)(e:Val):List CV:=[.int .i64 (Val.kind e),.int .i64 (Val.n e),.int .i64 (Val.step e),.str (Val.text e),.sl f .val (Val.list e),.sl f .str (Val.columns e),.sl f .row (Val.rows e)]
end Go.Ab
end
section
open Go.IntKind
namespace Go.Ab
def xC2(a0:Int):List Arg:=[.box [.int .u64 a0]]
def xCd(r:Int×Int):CallO:=⟨.v false [.int .u64 r.1],[[.int .u64 r.2]],[]⟩
def xDF(N:Nat)(a0:Int):Option (Int×Int):=some ((xorI .u64 (xorI .u64 (xorI .u64 a0 (IntKind.u64.wrap (a0*2 ^ (Int.toNat 13)))) (Int.fdiv (xorI .u64 a0 (IntKind.u64.wrap (a0*2 ^ (Int.toNat 13)))) ((2:Int) ^ (Int.toNat 7)))) (IntKind.u64.wrap ((xorI .u64 (xorI .u64 a0 (IntKind.u64.wrap (a0*2 ^ (Int.toNat 13)))) (Int.fdiv (xorI .u64 a0 (IntKind.u64.wrap (a0*2 ^ (Int.toNat 13)))) ((2:Int) ^ (Int.toNat 7))))*2 ^ (Int.toNat 17)))),(xorI .u64 (xorI .u64 (xorI .u64 a0 (IntKind.u64.wrap (a0*2 ^ (Int.toNat 13)))) (Int.fdiv (xorI .u64 a0 (IntKind.u64.wrap (a0*2 ^ (Int.toNat 13)))) ((2:Int) ^ (Int.toNat 7)))) (IntKind.u64.wrap ((xorI .u64 (xorI .u64 a0 (IntKind.u64.wrap (a0*2 ^ (Int.toNat 13)))) (Int.fdiv (xorI .u64 a0 (IntKind.u64.wrap (a0*2 ^ (Int.toNat 13)))) ((2:Int) ^ (Int.toNat 7))))*2 ^ (Int.toNat 17)))))
def xG2(a0:Int):List Arg:=[.val (.v false [.int .u64 a0])]
def xFS(r:Int):CallO:=⟨.v false [.int .i64 r],[],[]⟩
def xGZ(N:Nat)(a0:Int):Option Int:=zFJ a0
def xDw(a0:Int):List Arg:=[.val (.v false [.int .i64 a0])]
def xCO(r:Int):CallO:=⟨.v false [.int .u64 r],[],[]⟩
def xDu(N:Nat)(a0:Int):Option (Int):=(xGZ N (IntKind.u64.wrap (a0))).bind fun r1=>if(0:Int)≤(IntKind.u64.wrap (r1))∧(IntKind.u64.wrap (r1))<64 then some (IntKind.u64.wrap (1*2 ^ (Int.toNat (IntKind.u64.wrap (r1))))) else none
def xAg(a0 a1:Int)(a2:List Org):List Arg:=[.val (.v false [.int .i64 a0]),.val (.v false [.int .i64 a1]),.val (.v false [.sl (.lnt 0) .org a2]),.val (.v false [.val (.pointer (some ⟨3,41,none⟩))])]
def xAa(r:(List Org)):CallO:=⟨.tup [],[],[.sl (.lnt 0) .org r]⟩
def xAf(N:Nat)(a0 a1:Int)(a2:List Org):Option (List Org):=zJa a0 a1 a2
def xBH(a0:Int)(a1:Int)(a2:List Org):List Arg:=[.val (.v true [.clo 20 [1000003],.swp 62 0 (.pointer (some ⟨3,41,none⟩)) 1000003]),.val (.v false [.int .i64 a0]),.val (.v false [.int .i64 a1]),.gbox [.sl (.lnt 0) .org a2]]
def xA4(r:(List Org)):CallO:=⟨.tup [],[[.sl (.lnt 0) .org r]],[]⟩
def xA3(N:Nat):Nat→Int→Int→(List Org)→Option ((List Org))
 |0,_,_,_=>none
 |n+1,x6,x7,g003=>bif(decide (x6<x7)) then((xAf N x6 x7 g003).bind fun r1=>if 2≤g003.length then if r1.length=g003.length then(xA3 N n (i64.wrap (x6+1)) (i64.wrap (x7 - 1)) r1) else none else none) else(some g003)
def xBu(N:Nat)(a0:Int)(a1:Int)(a2:List Org):Option ((List Org)):=(xA3 N N a0 (i64.wrap (a1 - 1)) a2)
def xBj(a0:Int)(a1:Int)(a2:List Org):List Arg:=[.val (.v true [.clo 20 [1000003],.swp 62 0 (.pointer (some ⟨3,41,none⟩)) 1000003]),.val (.v false [.int .i64 a0]),.val (.v false [.int .i64 a1]),.gbox [.sl (.lnt 0) .org a2]]
def xAO(r:(List Org)):CallO:=⟨.tup [],[[.sl (.lnt 0) .org r]],[]⟩
def xAN(N:Nat):Nat→Int→Int→Int→Int→Int→(List Org)→Option ((List Org))
 |0,_,_,_,_,_,_=>none
 |n+1,x1,x6,x8,x9,b7,g003=>bif(decide (x9≤(i64.wrap ((i64.wrap (x1+(i64.wrap ((i64.wrap (Int.tdiv x6 4))*2))))+1)))) then((xDF N b7).bind fun r1=>bif(decide (((i64.wrap ((andI .u64 r1.1 (IntKind.u64.wrap (x8 - 1))))):Int)≥x6)) then((xAf N x9 (i64.wrap (x1+(i64.wrap ((i64.wrap ((andI .u64 r1.1 (IntKind.u64.wrap (x8 - 1))))) - x6)))) g003).bind fun r2=>if 2≤g003.length then if r2.length=g003.length then(xAN N n x1 x6 x8 (i64.wrap (x9+1)) r1.2 r2) else none else none) else((xAf N x9 (i64.wrap (x1+(i64.wrap ((andI .u64 r1.1 (IntKind.u64.wrap (x8 - 1))))))) g003).bind fun r2=>if 2≤g003.length then if r2.length=g003.length then(xAN N n x1 x6 x8 (i64.wrap (x9+1)) r1.2 r2) else none else none)) else(some g003)
def xBq(N:Nat)(a0:Int)(a1:Int)(a2:List Org):Option ((List Org)):=bif(decide ((i64.wrap (a1 - a0))≥8)) then((xDu N (i64.wrap (a1 - a0))).bind fun r1=>(xAN N N a0 (i64.wrap (a1 - a0)) r1 (i64.wrap ((i64.wrap (a0+(i64.wrap ((i64.wrap (Int.tdiv (i64.wrap (a1 - a0)) 4))*2)))) - 1)) (IntKind.u64.wrap ((i64.wrap (a1 - a0)))) a2)) else(some a2)
def xCa(a0:Org)(a1:Org):List Arg:=[.val (.v true [.int .i64 a0.cell,.int .i64 a0.row]),.val (.v true [.int .i64 a1.cell,.int .i64 a1.row])]
def xBx(r:Bool):CallO:=⟨.v false [.bool r],[],[]⟩
def xDl(N:Nat)(a0:Org)(a1:Org):Option (Bool):=bif(decide (a0.cell<a1.cell)) then(some true) else(bif(a0.cell==a1.cell) then(some (decide (a0.row<a1.row))) else(some false))
def xAU(a0:Int)(a1:Int)(a2:List Org):List Arg:=[.val (.v false [.int .i64 a0]),.val (.v false [.int .i64 a1]),.box [.sl (.lnt 0) .org a2]]
def xAc(r:Bool×(List Org)):CallO:=⟨.v false [.bool r.1],[[.sl (.lnt 0) .org r.2]],[]⟩
def xAA(N:Nat)(a0:Int)(a1:Int)(a2:List Org):Option (Bool×(List Org)):=if(0:Int)≤a0∧a0<a2.length then if(0:Int)≤a1∧a1<a2.length then(xDl N (a2.getD a0.toNat Ty.org.dflt) (a2.getD a1.toNat Ty.org.dflt)).bind fun r1=>some (r1,a2) else none else none
def xBt(a0:Int)(a1:Int)(a2:Int)(a3:List Org):List Arg:=[.val (.v true [.clo 20 [1000004],.swp 62 0 (.pointer (some ⟨3,41,none⟩)) 1000004]),.val (.v false [.int .i64 a0]),.val (.v false [.int .i64 a1]),.val (.v false [.int .i64 a2]),.gbox [.sl (.lnt 0) .org a3]]
def xAn(r:Int×Bool×(List Org)):CallO:=⟨.tup [(false,[.int .i64 r.1]),(false,[.bool r.2.1])],[[.sl (.lnt 0) .org r.2.2]],[]⟩
def xAI(N:Nat)(k13:Int→Int→Int→(List Org)→Option (Int×Bool×(List Org))):Nat→Int→Int→Int→(List Org)→Option (Int×Bool×(List Org))
 |0,_,_,_,_=>none
 |n+1,x1,x10,x11,g004=>bif(decide (x10≤x11)) then((xAA N x11 x1 g004).bind fun r1=>bif(!r1.1) then((xAI N k13 n x1 x10 (i64.wrap (x11 - 1)) r1.2)) else(bif(decide (x10>x11)) then((xAf N x11 x1 r1.2).bind fun r2=>if 2≤r1.2.length then if r2.length=r1.2.length then some (x11,false,r2) else none else none) else((xAf N x10 x11 r1.2).bind fun r2=>if 2≤r1.2.length then if r2.length=r1.2.length then(k13 x1 (i64.wrap (x10+1)) (i64.wrap (x11 - 1)) r2) else none else none))) else(bif(decide (x10>x11)) then((xAf N x11 x1 g004).bind fun r1=>if 2≤g004.length then if r1.length=g004.length then some (x11,false,r1) else none else none) else((xAf N x10 x11 g004).bind fun r1=>if 2≤g004.length then if r1.length=g004.length then(k13 x1 (i64.wrap (x10+1)) (i64.wrap (x11 - 1)) r1) else none else none))
def xAy(N:Nat):Nat→Int→Int→Int→(List Org)→Option (Int×Bool×(List Org))
 |0,_,_,_,_=>none
 |n+1,x1,x10,x11,g004=>bif(decide (x10≤x11)) then((xAA N x10 x1 g004).bind fun r1=>bif r1.1 then((xAy N n x1 (i64.wrap (x10+1)) x11 r1.2)) else((xAI N (fun z0 z1 z2 z3=>(xAy N n z0 z1 z2 z3)) N x1 x10 x11 r1.2))) else((xAI N (fun z0 z1 z2 z3=>(xAy N n z0 z1 z2 z3)) N x1 x10 x11 g004))
def xAM(N:Nat):Nat→Int→Int→Int→(List Org)→Option (Int×Bool×(List Org))
 |0,_,_,_,_=>none
 |n+1,x1,x10,x11,g004=>bif(decide (x10≤x11)) then((xAA N x11 x1 g004).bind fun r1=>bif(!r1.1) then((xAM N n x1 x10 (i64.wrap (x11 - 1)) r1.2)) else(bif(decide (x10>x11)) then((xAf N x11 x1 r1.2).bind fun r2=>if 2≤r1.2.length then if r2.length=r1.2.length then some (x11,true,r2) else none else none) else((xAf N x10 x11 r1.2).bind fun r2=>if 2≤r1.2.length then if r2.length=r1.2.length then(xAy N N x1 (i64.wrap (x10+1)) (i64.wrap (x11 - 1)) r2) else none else none))) else(bif(decide (x10>x11)) then((xAf N x11 x1 g004).bind fun r1=>if 2≤g004.length then if r1.length=g004.length then some (x11,true,r1) else none else none) else((xAf N x10 x11 g004).bind fun r1=>if 2≤g004.length then if r1.length=g004.length then(xAy N N x1 (i64.wrap (x10+1)) (i64.wrap (x11 - 1)) r1) else none else none))
def xBe(N:Nat):Nat→Int→Int→Int→(List Org)→Option (Int×Bool×(List Org))
 |0,_,_,_,_=>none
 |n+1,x1,x10,x11,g004=>bif(decide (x10≤x11)) then((xAA N x10 x1 g004).bind fun r1=>bif r1.1 then((xBe N n x1 (i64.wrap (x10+1)) x11 r1.2)) else((xAM N N x1 x10 x11 r1.2))) else((xAM N N x1 x10 x11 g004))
def xBG(N:Nat)(a0:Int)(a1:Int)(a2:Int)(a3:List Org):Option (Int×Bool×(List Org)):=(xAf N a0 a2 a3).bind fun r1=>if 2≤a3.length then if r1.length=a3.length then(xBe N N a0 (i64.wrap (a0+1)) (i64.wrap (a1 - 1)) r1) else none else none
def xBD(a0:Int)(a1:Int)(a2:Int)(a3:List Org):List Arg:=[.val (.v true [.clo 20 [1000004],.swp 62 0 (.pointer (some ⟨3,41,none⟩)) 1000004]),.val (.v false [.int .i64 a0]),.val (.v false [.int .i64 a1]),.val (.v false [.int .i64 a2]),.gbox [.sl (.lnt 0) .org a3]]
def xAw(r:Int×(List Org)):CallO:=⟨.v false [.int .i64 r.1],[[.sl (.lnt 0) .org r.2]],[]⟩
def xAD(N:Nat)(k3:Int→Int→Int→(List Org)→Option (Int×(List Org))):Nat→Int→Int→Int→(List Org)→Option (Int×(List Org))
 |0,_,_,_,_=>none
 |n+1,x1,x9,x10,g004=>bif(decide (x9≤x10)) then((xAA N x1 x10 g004).bind fun r1=>bif r1.1 then((xAD N k3 n x1 x9 (i64.wrap (x10 - 1)) r1.2)) else(bif(decide (x9>x10)) then(some (x9,r1.2)) else((xAf N x9 x10 r1.2).bind fun r2=>if 2≤r1.2.length then if r2.length=r1.2.length then(k3 x1 (i64.wrap (x9+1)) (i64.wrap (x10 - 1)) r2) else none else none))) else(bif(decide (x9>x10)) then(some (x9,g004)) else((xAf N x9 x10 g004).bind fun r1=>if 2≤g004.length then if r1.length=g004.length then(k3 x1 (i64.wrap (x9+1)) (i64.wrap (x10 - 1)) r1) else none else none))
def xAC(N:Nat):Nat→Int→Int→Int→(List Org)→Option (Int×(List Org))
 |0,_,_,_,_=>none
 |n+1,x1,x9,x10,g004=>bif(decide (x9≤x10)) then((xAA N x1 x9 g004).bind fun r1=>bif(!r1.1) then((xAC N n x1 (i64.wrap (x9+1)) x10 r1.2)) else((xAD N (fun z0 z1 z2 z3=>(xAC N n z0 z1 z2 z3)) N x1 x9 x10 r1.2))) else((xAD N (fun z0 z1 z2 z3=>(xAC N n z0 z1 z2 z3)) N x1 x9 x10 g004))
def xBo(N:Nat)(a0:Int)(a1:Int)(a2:Int)(a3:List Org):Option (Int×(List Org)):=(xAf N a0 a2 a3).bind fun r1=>if 2≤a3.length then if r1.length=a3.length then(xAC N N a0 (i64.wrap (a0+1)) (i64.wrap (a1 - 1)) r1) else none else none
def xAW(a0:Int)(a1:Int)(a2:List Org):List Arg:=[.val (.v true [.clo 20 [1000003],.swp 62 0 (.pointer (some ⟨3,41,none⟩)) 1000003]),.val (.v false [.int .i64 a0]),.val (.v false [.int .i64 a1]),.gbox [.sl (.lnt 0) .org a2]]
def xAd(r:Bool×(List Org)):CallO:=⟨.v false [.bool r.1],[[.sl (.lnt 0) .org r.2]],[]⟩
def xAH(N:Nat)(k3:Int→Int→Int→Int→(List Org)→Option (Bool×(List Org))):Nat→Int→Int→Int→Int→Int→(List Org)→Option (Bool×(List Org))
 |0,_,_,_,_,_,_=>none
 |n+1,x1,x2,x7,x8,x10,g003=>bif(decide (x10<x2)) then((xAA N x10 (i64.wrap (x10 - 1)) g003).bind fun r1=>bif(!r1.1) then((k3 x1 x2 x7 (i64.wrap (x8+1)) r1.2)) else((xAf N x10 (i64.wrap (x10 - 1)) r1.2).bind fun r2=>if 2≤r1.2.length then if r2.length=r1.2.length then(xAH N k3 n x1 x2 x7 x8 (i64.wrap (x10+1)) r2) else none else none)) else((k3 x1 x2 x7 (i64.wrap (x8+1)) g003))
def xAz(N:Nat)(k3:Int→Int→Int→Int→(List Org)→Option (Bool×(List Org)))(x1:Int)(x2:Int)(x7:Int)(x8:Int)(g003:List Org):Option (Bool×(List Org)):=bif(decide ((i64.wrap (x2 - x7))≥2)) then((xAH N k3 N x1 x2 x7 x8 (i64.wrap (x7+1)) g003)) else((k3 x1 x2 x7 (i64.wrap (x8+1)) g003))
def xAG(N:Nat)(k3:Int→Int→Int→Int→(List Org)→Option (Bool×(List Org))):Nat→Int→Int→Int→Int→Int→(List Org)→Option (Bool×(List Org))
 |0,_,_,_,_,_,_=>none
 |n+1,x1,x2,x7,x8,x9,g003=>bif(decide (x9≥1)) then((xAA N x9 (i64.wrap (x9 - 1)) g003).bind fun r1=>bif(!r1.1) then((xAz N k3 x1 x2 x7 x8 r1.2)) else((xAf N x9 (i64.wrap (x9 - 1)) r1.2).bind fun r2=>if 2≤r1.2.length then if r2.length=r1.2.length then(xAG N k3 n x1 x2 x7 x8 (i64.wrap (x9 - 1)) r2) else none else none)) else((xAz N k3 x1 x2 x7 x8 g003))
def xAK(N:Nat)(k3:Int→Int→Int→Int→(List Org)→Option (Bool×(List Org)))(x1:Int)(x2:Int)(x7:Int)(x8:Int)(g003:List Org):Option (Bool×(List Org)):=bif(x7==x2) then(some (true,g003)) else(bif(decide ((i64.wrap (x2 - x1))<50)) then(some (false,g003)) else((xAf N x7 (i64.wrap (x7 - 1)) g003).bind fun r1=>if 2≤g003.length then if r1.length=g003.length then bif(decide ((i64.wrap (x7 - x1))≥2)) then((xAG N k3 N x1 x2 x7 x8 (i64.wrap (x7 - 1)) r1)) else((xAz N k3 x1 x2 x7 x8 r1)) else none else none))
def xAJ(N:Nat)(k3:Int→Int→Int→Int→(List Org)→Option (Bool×(List Org))):Nat→Int→Int→Int→Int→(List Org)→Option (Bool×(List Org))
 |0,_,_,_,_,_=>none
 |n+1,x1,x2,x7,x8,g003=>bif(decide (x7<x2)) then((xAA N x7 (i64.wrap (x7 - 1)) g003).bind fun r1=>bif(!r1.1) then((xAJ N k3 n x1 x2 (i64.wrap (x7+1)) x8 r1.2)) else((xAK N k3 x1 x2 x7 x8 r1.2))) else((xAK N k3 x1 x2 x7 x8 g003))
def xAB(N:Nat):Nat→Int→Int→Int→Int→(List Org)→Option (Bool×(List Org))
 |0,_,_,_,_,_=>none
 |n+1,x1,x2,x7,x8,g003=>bif(decide (x8<5)) then((xAJ N (fun z0 z1 z2 z3 z4=>(xAB N n z0 z1 z2 z3 z4)) N x1 x2 x7 x8 g003)) else(some (false,g003))
def xA8(N:Nat)(a0:Int)(a1:Int)(a2:List Org):Option (Bool×(List Org)):=(xAB N N a0 a1 (i64.wrap (a0+1)) 0 a2)
def xBa(a0:Int)(a1:Int)(a2:Int)(a3:List Org):List Arg:=[.val (.v true [.clo 20 [1000004],.swp 62 0 (.pointer (some ⟨3,41,none⟩)) 1000004]),.val (.v false [.int .i64 a0]),.val (.v false [.int .i64 a1]),.box [.int .i64 a2],.gbox [.sl (.lnt 0) .org a3]]
def xAE(r:Int×Int×Int×(List Org)):CallO:=⟨.tup [(false,[.int .i64 r.1]),(false,[.int .i64 r.2.1])],[[.int .i64 r.2.2.1],[.sl (.lnt 0) .org r.2.2.2]],[]⟩
def xBl(N:Nat)(a0:Int)(a1:Int)(a2:Int)(a3:List Org):Option (Int×Int×Int×(List Org)):=(xAA N a1 a0 a3).bind fun r1=>bif r1.1 then(some (a1,a0,(i64.wrap (a2+1)),r1.2)) else(some (a0,a1,a2,r1.2))
def xAT(a0:Int)(a1:Int)(a2:Int)(a3:Int)(a4:List Org):List Arg:=[.val (.v true [.clo 20 [1000005],.swp 62 0 (.pointer (some ⟨3,41,none⟩)) 1000005]),.val (.v false [.int .i64 a0]),.val (.v false [.int .i64 a1]),.val (.v false [.int .i64 a2]),.box [.int .i64 a3],.gbox [.sl (.lnt 0) .org a4]]
def xAq(r:Int×Int×(List Org)):CallO:=⟨.v false [.int .i64 r.1],[[.int .i64 r.2.1],[.sl (.lnt 0) .org r.2.2]],[]⟩
def xBk(N:Nat)(a0:Int)(a1:Int)(a2:Int)(a3:Int)(a4:List Org):Option (Int×Int×(List Org)):=(xBl N a0 a1 a3 a4).bind fun r1=>(xBl N r1.2.1 a2 r1.2.2.1 r1.2.2.2).bind fun r2=>(xBl N r1.1 r2.1 r2.2.2.1 r2.2.2.2).bind fun r3=>some (r3.2.1,r3.2.2.1,r3.2.2.2)
def xAV(a0:Int)(a1:Int)(a2:List Org):List Arg:=[.val (.v true [.clo 20 [1000003],.swp 62 0 (.pointer (some ⟨3,41,none⟩)) 1000003]),.val (.v false [.int .i64 a0]),.box [.int .i64 a1],.gbox [.sl (.lnt 0) .org a2]]
def xAl(r:Int×Int×(List Org)):CallO:=⟨.v false [.int .i64 r.1],[[.int .i64 r.2.1],[.sl (.lnt 0) .org r.2.2]],[]⟩
def xAQ(N:Nat)(a0:Int)(a1:Int)(a2:List Org):Option (Int×Int×(List Org)):=(xBk N (i64.wrap (a0 - 1)) a0 (i64.wrap (a0+1)) a1 a2).bind fun r1=>some (r1.1,r1.2.1,r1.2.2)
def xAp(a0:Int)(a1:Int)(a2:List Org):List Arg:=[.val (.v true [.clo 20 [1000003],.swp 62 0 (.pointer (some ⟨3,41,none⟩)) 1000003]),.val (.v false [.int .i64 a0]),.val (.v false [.int .i64 a1]),.gbox [.sl (.lnt 0) .org a2]]
def xAm(r:Int×Int×(List Org)):CallO:=⟨.tup [(false,[.int .i64 r.1]),(false,[.int .i64 r.2.1])],[[.sl (.lnt 0) .org r.2.2]],[]⟩
def xBy(N:Nat)(a0:Int)(a1:Int)(a2:List Org):Option (Int×Int×(List Org)):=bif(decide ((i64.wrap (a1 - a0))≥8)) then(bif(decide ((i64.wrap (a1 - a0))≥50)) then((xAQ N (i64.wrap (a0+(i64.wrap ((i64.wrap (Int.tdiv (i64.wrap (a1 - a0)) 4))*1)))) 0 a2).bind fun r1=>(xAQ N (i64.wrap (a0+(i64.wrap ((i64.wrap (Int.tdiv (i64.wrap (a1 - a0)) 4))*2)))) r1.2.1 r1.2.2).bind fun r2=>(xAQ N (i64.wrap (a0+(i64.wrap ((i64.wrap (Int.tdiv (i64.wrap (a1 - a0)) 4))*3)))) r2.2.1 r2.2.2).bind fun r3=>(xBk N r1.1 r2.1 r3.1 r3.2.1 r3.2.2).bind fun r4=>bif(r4.2.1==0) then(some (r4.1,1,r4.2.2)) else(bif(r4.2.1==12) then(some (r4.1,2,r4.2.2)) else(some (r4.1,0,r4.2.2)))) else((xBk N (i64.wrap (a0+(i64.wrap ((i64.wrap (Int.tdiv (i64.wrap (a1 - a0)) 4))*1)))) (i64.wrap (a0+(i64.wrap ((i64.wrap (Int.tdiv (i64.wrap (a1 - a0)) 4))*2)))) (i64.wrap (a0+(i64.wrap ((i64.wrap (Int.tdiv (i64.wrap (a1 - a0)) 4))*3)))) 0 a2).bind fun r1=>bif(r1.2.1==0) then(some (r1.1,1,r1.2.2)) else(bif(r1.2.1==12) then(some (r1.1,2,r1.2.2)) else(some (r1.1,0,r1.2.2))))) else(bif((0:Int)==0) then(some ((i64.wrap (a0+(i64.wrap ((i64.wrap (Int.tdiv (i64.wrap (a1 - a0)) 4))*2)))),1,a2)) else(bif((0:Int)==12) then(some ((i64.wrap (a0+(i64.wrap ((i64.wrap (Int.tdiv (i64.wrap (a1 - a0)) 4))*2)))),2,a2)) else(some ((i64.wrap (a0+(i64.wrap ((i64.wrap (Int.tdiv (i64.wrap (a1 - a0)) 4))*2)))),0,a2)
     )))
def xBC(a0:Int)(a1:Int)(a2:Int)(a3:List Org):List Arg:=[.val (.v true [.clo 20 [1000004],.swp 62 0 (.pointer (some ⟨3,41,none⟩)) 1000004]),.val (.v false [.int .i64 a0]),.val (.v false [.int .i64 a1]),.val (.v false [.int .i64 a2]),.gbox [.sl (.lnt 0) .org a3]]
def xAu(r:(List Org)):CallO:=⟨.tup [],[[.sl (.lnt 0) .org r]],[]⟩
def xAP(N:Nat):Nat→Int→Int→Int→(List Org)→Option ((List Org))
 |0,_,_,_,_=>none
 |n+1,x2,x3,x8,g004=>bif(decide (((i64.wrap ((i64.wrap (2*x8))+1)):Int)≥x2)) then(some g004) else(bif(decide (((i64.wrap ((i64.wrap ((i64.wrap (2*x8))+1))+1)):Int)<x2)) then((xAA N (i64.wrap (x3+(i64.wrap ((i64.wrap (2*x8))+1)))) (i64.wrap ((i64.wrap (x3+(i64.wrap ((i64.wrap (2*x8))+1))))+1)) g004).bind fun r1=>bif r1.1 then((xAA N (i64.wrap (x3+x8)) (i64.wrap (x3+(i64.wrap ((i64.wrap ((i64.wrap (2*x8))+1))+1)))) r1.2).bind fun r2=>bif(!r2.1) then(some r2.2) else((xAf N (i64.wrap (x3+x8)) (i64.wrap (x3+(i64.wrap ((i64.wrap ((i64.wrap (2*x8))+1))+1)))) r2.2).bind fun r3=>if 2≤r2.2.length then if r3.length=r2.2.length then(xAP N n x2 x3 (i64.wrap ((i64.wrap ((i64.wrap (2*x8))+1))+1)) r3) else none else none)) else((xAA N (i64.wrap (x3+x8)) (i64.wrap (x3+(i64.wrap ((i64.wrap (2*x8))+1)))) r1.2).bind fun r2=>bif(!r2.1) then(some r2.2) else((xAf N (i64.wrap (x3+x8)) (i64.wrap (x3+(i64.wrap ((i64.wrap (2*x8))+1)))) r2.2).bind fun r3=>if 2≤r2.2.length then if r3.length=r2.2.length then(xAP N n x2 x3 (i64.wrap ((i64.wrap (2*x8))+1)) r3) else none else none))) else((xAA N (i64.wrap (x3+x8)) (i64.wrap (x3+(i64.wrap ((i64.wrap (2*x8))+1)))) g004).bind fun r1=>bif(!r1.1) then(some r1.2) else((xAf N (i64.wrap (x3+x8)) (i64.wrap (x3+(i64.wrap ((i64.wrap (2*x8))+1)))) r1.2).bind fun r2=>
      if 2≤r1.2.length then if r2.length=r1.2.length then(xAP N n x2 x3 (i64.wrap ((i64.wrap (2*x8))+1)) r2) else none else none)))
def xBd(N:Nat)(a0:Int)(a1:Int)(a2:Int)(a3:List Org):Option ((List Org)):=(xAP N N a1 a2 a0 a3)
def xBV(a0:Int)(a1:Int)(a2:List Org):List Arg:=[.val (.v true [.clo 20 [1000003],.swp 62 0 (.pointer (some ⟨3,41,none⟩)) 1000003]),.val (.v false [.int .i64 a0]),.val (.v false [.int .i64 a1]),.gbox [.sl (.lnt 0) .org a2]]
def xAZ(r:(List Org)):CallO:=⟨.tup [],[[.sl (.lnt 0) .org r]],[]⟩
def xBh(N:Nat):Nat→Int→Int→Int→(List Org)→Option ((List Org))
 |0,_,_,_,_=>none
 |n+1,x6,x7,x10,g003=>bif(decide (x10≥0)) then((xAf N x6 (i64.wrap (x6+x10)) g003).bind fun r1=>if 2≤g003.length then if r1.length=g003.length then(xBd N x7 x10 x6 r1).bind fun r2=>(xBh N n x6 x7 (i64.wrap (x10 - 1)) r2) else none else none) else(some g003)
def xBg(N:Nat):Nat→Int→Int→Int→Int→(List Org)→Option ((List Org))
 |0,_,_,_,_,_=>none
 |n+1,x6,x7,x8,x9,g003=>bif(decide (x9≥0)) then((xBd N x9 x8 x6 g003).bind fun r1=>(xBg N n x6 x7 x8 (i64.wrap (x9 - 1)) r1)) else((xBh N N x6 x7 (i64.wrap (x8 - 1)) g003))
def xBJ(N:Nat)(a0:Int)(a1:Int)(a2:List Org):Option ((List Org)):=(xBg N N a0 0 (i64.wrap (a1 - a0)) (i64.wrap (Int.tdiv (i64.wrap ((i64.wrap (a1 - a0)) - 1)) 2)) a2)
def xBF(a0:Int)(a1:Int)(a2:List Org):List Arg:=[.val (.v true [.clo 20 [1000003],.swp 62 0 (.pointer (some ⟨3,41,none⟩)) 1000003]),.val (.v false [.int .i64 a0]),.val (.v false [.int .i64 a1]),.gbox [.sl (.lnt 0) .org a2]]
def xAF(r:(List Org)):CallO:=⟨.tup [],[[.sl (.lnt 0) .org r]],[]⟩
def xAY(N:Nat)(k2:Int→Int→Int→(List Org)→Option ((List Org))):Nat→Int→Int→Int→Int→(List Org)→Option ((List Org))
 |0,_,_,_,_,_=>none
 |n+1,x1,x2,x6,x7,g003=>bif(decide (x7>x1)) then((xAA N x7 (i64.wrap (x7 - 1)) g003).bind fun r1=>bif r1.1 then((xAf N x7 (i64.wrap (x7 - 1)) r1.2).bind fun r2=>if 2≤r1.2.length then if r2.length=r1.2.length then(xAY N k2 n x1 x2 x6 (i64.wrap (x7 - 1)) r2) else none else none) else((k2 x1 x2 (i64.wrap (x6+1)) r1.2))) else((k2 x1 x2 (i64.wrap (x6+1)) g003))
def xAX(N:Nat):Nat→Int→Int→Int→(List Org)→Option ((List Org))
 |0,_,_,_,_=>none
 |n+1,x1,x2,x6,g003=>bif(decide (x6<x2)) then((xAY N (fun z0 z1 z2 z3=>(xAX N n z0 z1 z2 z3)) N x1 x2 x6 x6 g003)) else(some g003)
def xBr(N:Nat)(a0:Int)(a1:Int)(a2:List Org):Option ((List Org)):=(xAX N N a0 a1 (i64.wrap (a0+1)) a2)
def xA5(a0:Int)(a1:Int)(a2:Int)(a3:List Org):List Arg:=[.val (.v true [.clo 20 [1000004],.swp 62 0 (.pointer (some ⟨3,41,none⟩)) 1000004]),.val (.v false [.int .i64 a0]),.val (.v false [.int .i64 a1]),.val (.v false [.int .i64 a2]),.gbox [.sl (.lnt 0) .org a3]]
def xAj(r:(List Org)):CallO:=⟨.tup [],[[.sl (.lnt 0) .org r]],[]⟩
def xBB(N:Nat)(q0:Int→Int→Int→(List Org)→Option ((List Org)))(k3:Int→Int→Int→Bool→Bool→(List Org)→Option ((List Org)))(x1:Int)(x2:Int)(x3:Int)(x10:Int)(x11:Int)(g004:List Org):Option ((List Org)):=(xBG N x1 x2 x11 g004).bind fun r1=>bif(decide ((i64.wrap (r1.1 - x1))<(i64.wrap (x2 - r1.1)))) then((q0 x1 r1.1 x3 r1.2.2).bind fun r2=>(k3 (i64.wrap (r1.1+1)) x2 x3 (decide ((i64.wrap (r1.1 - x1))≥(i64.wrap (Int.tdiv x10 8)))) r1.2.1 r2)) else((q0 (i64.wrap (r1.1+1)) x2 x3 r1.2.2).bind fun r2=>(k3 x1 r1.1 x3 (decide ((i64.wrap (x2 - r1.1))≥(i64.wrap (Int.tdiv x10 8)))) r1.2.1 r2))
def xA0(N:Nat)(q0:Int→Int→Int→(List Org)→Option ((List Org)))(k3:Int→Int→Int→Bool→Bool→(List Org)→Option ((List Org)))(x1:Int)(x2:Int)(x3:Int)(x8:Bool)(x9:Bool)(x10:Int)(x11:Int)(g004:List Org):Option ((List Org)):=bif(decide (x1>0)) then((xAA N (i64.wrap (x1 - 1)) x11 g004).bind fun r1=>bif(!r1.1) then((xBo N x1 x2 x11 r1.2).bind fun r2=>(k3 r2.1 x2 x3 x8 x9 r2.2)) else((xBB N q0 k3 x1 x2 x3 x10 x11 r1.2))) else((xBB N q0 k3 x1 x2 x3 x10 x11 g004))
def xBA(N:Nat)(q0:Int→Int→Int→(List Org)→Option ((List Org)))(k3:Int→Int→Int→Bool→Bool→(List Org)→Option ((List Org)))(x1:Int)(x2:Int)(x3:Int)(x8:Bool)(x9:Bool)(x10:Int)(x11:Int)(x12:Int)(g004:List Org):Option ((List Org)):=bif x8 then(bif x9 then(bif(x12==1) then((xA8 N x1 x2 g004).bind fun r1=>bif r1.1 then(some r1.2) else((xA0 N q0 k3 x1 x2 x3 x8 x9 x10 x11 r1.2))) else((xA0 N q0 k3 x1 x2 x3 x8 x9 x10 x11 g004))) else((xA0 N q0 k3 x1 x2 x3 x8 x9 x10 x11 g004))) else((xA0 N q0 k3 x1 x2 x3 x8 x9 x10 x11 g004))
def xBz(N:Nat)(q0:Int→Int→Int→(List Org)→Option ((List Org)))(k3:Int→Int→Int→Bool→Bool→(List Org)→Option ((List Org)))(x1:Int)(x2:Int)(x3:Int)(x8:Bool)(x9:Bool)(x10:Int)(g004:List Org):Option ((List Org)):=(xBy N x1 x2 g004).bind fun r1=>bif(r1.2.1==2) then((xBu N x1 x2 r1.2.2).bind fun r2=>(xBA N q0 k3 x1 x2 x3 x8 x9 x10 (i64.wrap ((i64.wrap (x2 - 1)) - (i64.wrap (r1.1 - x1)))) 1 r2)) else((xBA N q0 k3 x1 x2 x3 x8 x9 x10 r1.1 r1.2.1 r1.2.2))
def xA6(N:Nat)(q0:Int→Int→Int→(List Org)→Option ((List Org))):Nat→Int→Int→Int→Bool→Bool→(List Org)→Option ((List Org))
 |0,_,_,_,_,_,_=>none
 |n+1,x1,x2,x3,x8,x9,g004=>bif(decide ((i64.wrap (x2 - x1))≤12)) then((xBr N x1 x2 g004).bind fun r1=>some r1) else(bif(x3==0) then((xBJ N x1 x2 g004).bind fun r1=>some r1) else(bif(!x8) then((xBq N x1 x2 g004).bind fun r1=>(xBz N q0 (fun z0 z1 z2 z3 z4 z5=>(xA6 N q0 n z0 z1 z2 z3 z4 z5)) x1 x2 (i64.wrap (x3 - 1)) x8 x9 (i64.wrap (x2 - x1)) r1)) else((xBz N q0 (fun z0 z1 z2 z3 z4 z5=>(xA6 N q0 n z0 z1 z2 z3 z4 z5)) x1 x2 x3 x8 x9 (i64.wrap (x2 - x1)) g004))))
def xCh(N:Nat)(q0:Int→Int→Int→(List Org)→Option ((List Org)))(a0:Int)(a1:Int)(a2:Int)(a3:List Org):Option ((List Org)):=(xA6 N q0 N a0 a1 a2 true true a3)
def xA1(N:Nat):Nat→Int→Int→Int→(List Org)→Option ((List Org))
 |0,_,_,_,_=>none
 |d+1,a0,a1,a2,a3=>xCh N (xA1 N d) a0 a1 a2 a3
def xCI(N:Nat)(a0:Int)(a1:Int)(a2:Int)(a3:List Org):Option ((List Org)):=xA1 N N a0 a1 a2 a3
def xGY(a0:List Int):List Arg:=[.val (.v false [.sl .ro .byte a0])]
def xCH(r:Bool):CallO:=⟨.v false [.bool r],[],[]⟩
def xHq(N:Nat)(a0:List Int):Option (Bool):=some (decide ((a0.length:Int)>1048576))
def xF2(a0:List Int):List Arg:=[.val (.v false [.sl .ro .byte a0])]
def xD4(r:Cur):CallO:=⟨.tup [(false,[.ptr 0 0]),(true,(Cu .ro r))],[],[]⟩
def xEB(N:Nat):Nat→(List Int)→Int→Int→Option (Cur)
 |0,_,_,_=>none
 |n+1,x0,x3,x4=>bif(decide (x4<(x0.length:Int))) then(bif(decide (x4<4000)) then(if(0:Int)≤x4∧x4<x0.length then(xEB N n x0 (andI .i64 (i64.wrap ((i64.wrap ((i64.wrap (x3*131))+(i64.wrap ((x0.getD x4.toNat Ty.byte.dflt)))))+7)) 1073741823) (i64.wrap (x4+1))) else none) else(some (Cur.mk x0 0 x3))) else(some (Cur.mk x0 0 x3))
def xF6(N:Nat)(a0:List Int):Option (Cur):=(xEB N N a0 (i64.wrap (26583+(a0.length:Int))) 0)
def xC1(a0:Cur):List Arg:=[.box (Cu .ro a0)]
def xB3(r:Int×Cur):CallO:=⟨.v false [.int .i64 r.1],[(Cu .ro r.2)],[]⟩
def xD3(N:Nat)(a0:Cur):Option (Int×Cur):=bif(decide (a0.i<(a0.b.length:Int))) then(if(0:Int)≤a0.i∧a0.i<a0.b.length then some ((andI .i64 (i64.wrap ((andI .i64 (xorI .i64 (Int.fdiv (i64.wrap ((i64.wrap (a0.h*6364136223846793005))+1442695040888963407)) ((2:Int) ^ (Int.toNat 33))) (Int.fdiv (i64.wrap ((i64.wrap (a0.h*6364136223846793005))+1442695040888963407)) ((2:Int) ^ (Int.toNat 45)))) 255)+(i64.wrap ((a0.b.getD a0.i.toNat Ty.byte.dflt))))) 255),(Cur.mk a0.b (i64.wrap (a0.i+1)) (i64.wrap ((i64.wrap (a0.h*6364136223846793005))+1442695040888963407)))) else none) else(some ((andI .i64 (xorI .i64 (Int.fdiv (i64.wrap ((i64.wrap (a0.h*6364136223846793005))+1442695040888963407)) ((2:Int) ^ (Int.toNat 33))) (Int.fdiv (i64.wrap ((i64.wrap (a0.h*6364136223846793005))+1442695040888963407)) ((2:Int) ^ (Int.toNat 45)))) 255),(Cur.mk a0.b a0.i (i64.wrap ((i64.wrap (a0.h*6364136223846793005))+1442695040888963407)))))
def xC3(a0:Cur)(a1:Int):List Arg:=[.box (Cu .ro a0),.val (.v false [.int .i64 a1])]
def xCe(r:Int×Cur):CallO:=⟨.v false [.int .i64 r.1],[(Cu .ro r.2)],[]⟩
def xDf(N:Nat)(a0:Cur)(a1:Int):Option (Int×Cur):=bif(decide (a1≤0)) then(some (0,a0)) else(bif(decide (a1≤256)) then((xD3 N a0).bind fun r1=>if a1≠(0:Int) then some ((Int.tmod r1.1 a1),r1.2) else none) else((xD3 N a0).bind fun r1=>(xD3 N r1.2).bind fun r2=>(xD3 N r2.2).bind fun r3=>(xD3 N r3.2).bind fun r4=>if a1≠(0:Int) then some ((Int.tmod (i64.wrap ((i64.wrap ((i64.wrap ((i64.wrap (r1.1*16777216))+(i64.wrap (r2.1*65536))))+(i64.wrap (r3.1*256))))+r4.1)) a1),r4.2) else none))
def xES(a0:Cur):List Arg:=[.box (Cu .ro a0)]
def xDh(r:(List Org)×Cur):CallO:=⟨.v false [.sl .own .org r.1],[(Cu .ro r.2)],[]⟩
def xEe(N:Nat):Nat→(List Org)→Int→Int→Cur→Option ((List Org)×Cur)
 |0,_,_,_,_=>none
 |n+1,x3,x4,x5,b0=>bif(decide (x5<x4)) then((xDf N b0 3).bind fun r1=>(xDf N r1.2 4).bind fun r2=>if x3.length+ [(Org.mk r1.1 r2.1)].length≤Lim then(xEe N n (x3++ [(Org.mk r1.1 r2.1)]) x4 (i64.wrap (x5+1)) r2.2) else none) else(some (x3,b0))
def xFy(N:Nat)(a0:Cur):Option ((List Org)×Cur):=(xDf N a0 6).bind fun r1=>(xEe N N [] r1.1 0 r1.2)
def xC7(a0:List Int):List Arg:=[.val (.v false [.sl .ro .byte a0])]
def xAR(r:(List Org)×(List Org)):CallO:=⟨.tup [(false,[.sl .own .org r.1]),(false,[.sl .own .org r.2])],[],[]⟩
def xCA(N:Nat)(a0:List Int):Option ((List Org)×(List Org)):=(xF6 N a0).bind fun r1=>(xFy N r1).bind fun r2=>(xFy N r2.2).bind fun r3=>some (r2.1,r3.1)
def xBp(a0:List Org)(a1:List Org):List Arg:=[.val (.v false [.sl .ro .org a0]),.val (.v false [.sl .ro .org a1])]
def xAk(r:(List Org)):CallO:=⟨.v false [.sl .own .org r],[],[]⟩
def xBY(N:Nat)(a0 a1:List Org):Option (List Org):=zJr a0 a1
def xDa(a0:Org)(a1:Org):List Arg:=[.val (.v true [.int .i64 a0.cell,.int .i64 a0.row]),.val (.v true [.int .i64 a1.cell,.int .i64 a1.row])]
def xCt(r:Bool):CallO:=⟨.v false [.bool r],[],[]⟩
def xFf(N:Nat)(a0:Org)(a1:Org):Option (Bool):=bif(decide (a0.cell<a1.cell)) then(some true) else(bif(a0.cell==a1.cell) then(some (decide (a0.row<a1.row))) else(some false))
def xFh(a0:List Org)(a1:Org):List Arg:=[.val (.v false [.sl .ro .org a0]),.val (.v true [.int .i64 a1.cell,.int .i64 a1.row])]
def xDd(r:(List Org)):CallO:=⟨.v false [.sl .own .org r],[],[]⟩
def xCu(N:Nat):Nat→(List Org)→(List Org)→Bool→Int→Org→Option ((List Org))
 |0,_,_,_,_,_=>none
 |n+1,x0,x5,x6,x7,b3=>bif(decide (x7<(x0.length:Int))) then(if(0:Int)≤x7∧x7<x0.length then bif((((Org.cell (x0.getD x7.toNat Ty.org.dflt)):Int)==b3.cell)&&(((Org.row (x0.getD x7.toNat Ty.org.dflt)):Int)==b3.row)) then(if x5.length+ [(x0.getD x7.toNat Ty.org.dflt)].length≤Lim then(xCu N n x0 (x5++ [(x0.getD x7.toNat Ty.org.dflt)]) true (i64.wrap (x7+1)) b3) else none) else(bif(!x6) then((xFf N b3 (x0.getD x7.toNat Ty.org.dflt)).bind fun r1=>bif r1 then(if x5.length+ [b3].length≤Lim then if List.length (x5++ [b3])+ [(x0.getD x7.toNat Ty.org.dflt)].length≤Lim then(xCu N n x0 ((x5++ [b3])++ [(x0.getD x7.toNat Ty.org.dflt)]) true (i64.wrap (x7+1)) b3) else none else none) else(if x5.length+ [(x0.getD x7.toNat Ty.org.dflt)].length≤Lim then(xCu N n x0 (x5++ [(x0.getD x7.toNat Ty.org.dflt)]) x6 (i64.wrap (x7+1)) b3) else none)) else(if x5.length+ [(x0.getD x7.toNat Ty.org.dflt)].length≤Lim then(xCu N n x0 (x5++ [(x0.getD x7.toNat Ty.org.dflt)]) x6 (i64.wrap (x7+1)) b3) else none)) else none) else(bif(!x6) then(if x5.length+ [b3].length≤Lim then some (x5++ [b3]) else none) else(some x5))
def xGT(N:Nat)(a0:List Org)(a1:Org):Option ((List Org)):=(xCu N N a0 [] false 0 a1)
def xDM(a0:List Org)(a1:List Org):List Arg:=[.val (.v false [.sl .ro .org a0]),.val (.v false [.sl .ro .org a1])]
def xA2(r:(List Org)):CallO:=⟨.v false [.sl .own .org r],[],[]⟩
def xCL(N:Nat):Nat→(List Org)→(List Org)→Int→Option ((List Org))
 |0,_,_,_=>none
 |n+1,x1,x5,x7=>bif(decide (x7<(x1.length:Int))) then(if(0:Int)≤x7∧x7<x1.length then(xGT N x5 (x1.getD x7.toNat Ty.org.dflt)).bind fun r1=>(xCL N n x1 r1 (i64.wrap (x7+1))) else none) else(some x5)
def xCK(N:Nat):Nat→(List Org)→(List Org)→(List Org)→Int→Option ((List Org))
 |0,_,_,_,_=>none
 |n+1,x0,x1,x5,x6=>bif(decide (x6<(x0.length:Int))) then(if(0:Int)≤x6∧x6<x0.length then(xGT N x5 (x0.getD x6.toNat Ty.org.dflt)).bind fun r1=>(xCK N n x0 x1 r1 (i64.wrap (x6+1))) else none) else((xCL N N x1 x5 0))
def xDQ(N:Nat)(a0:List Org)(a1:List Org):Option ((List Org)):=(xCK N N a0 a1 [] 0)
def xFe(a0:List Org):List Arg:=[.val (.v false [.sl .ro .org a0])]
def xDZ(r:Val):CallO:=⟨.v true [.int .i64 (Val.kind r),.int .i64 (Val.n r),.int .i64 (Val.step r),.str (Val.text r),.sl .own .val (Val.list r),.sl .own .str (Val.columns r),.sl .tip .row (Val.rows r)],[],[]⟩
def xGO(N:Nat)(a0:List Org):Option (Val):=some (Val.mk 0 0 0 [] [] [] [(Rowd.mk [] a0)])
def xDv(a0:List Str)(a1:List Str):List Arg:=[.val (.v false [.sl .ro .str a0]),.val (.v false [.sl .ro .str a1])]
def xB6(r:Bool):CallO:=⟨.v false [.bool r],[],[]⟩
def xDR(N:Nat):Nat→(List Str)→(List Str)→Int→Option (Bool)
 |0,_,_,_=>none
 |n+1,x0,x1,x5=>bif(decide (x5<(x0.length:Int))) then(if(0:Int)≤x5∧x5<x0.length then if(0:Int)≤x5∧x5<x1.length then bif(!(((x0.getD x5.toNat Ty.str.dflt):Str)==(x1.getD x5.toNat Ty.str.dflt))) then(some false) else((xDR N n x0 x1 (i64.wrap (x5+1)))) else none else none) else(some true)
def xFJ(N:Nat)(a0:List Str)(a1:List Str):Option (Bool):=bif((a0.length:Int) != (a1.length:Int)) then(some false) else((xDR N N a0 a1 0))
def xEQ(a0:List Int)(a1:List Int):List Arg:=[.val (.v false [.sl .ro .int a0]),.val (.v false [.sl .ro .int a1])]
def xCo(r:Bool):CallO:=⟨.v false [.bool r],[],[]⟩
def xEc(N:Nat):Nat→(List Int)→(List Int)→Int→Option (Bool)
 |0,_,_,_=>none
 |n+1,x0,x1,x5=>bif(decide (x5<(x0.length:Int))) then(if(0:Int)≤x5∧x5<x0.length then if(0:Int)≤x5∧x5<x1.length then bif((x0.getD x5.toNat Ty.int.dflt) != (x1.getD x5.toNat Ty.int.dflt)) then(some false) else((xEc N n x0 x1 (i64.wrap (x5+1)))) else none else none) else(some true)
def xGm(N:Nat)(a0:List Int)(a1:List Int):Option (Bool):=bif((a0.length:Int) != (a1.length:Int)) then(some false) else((xEc N N a0 a1 0))
def xDo(a0:List Org)(a1:List Org):List Arg:=[.val (.v false [.sl .ro .org a0]),.val (.v false [.sl .ro .org a1])]
def xB9(r:Bool):CallO:=⟨.v false [.bool r],[],[]⟩
def xDp(N:Nat):Nat→(List Org)→(List Org)→Int→Option (Bool)
 |0,_,_,_=>none
 |n+1,x0,x1,x5=>bif(decide (x5<(x0.length:Int))) then(if(0:Int)≤x5∧x5<x0.length then if(0:Int)≤x5∧x5<x1.length then bif(!((((Org.cell (x0.getD x5.toNat Ty.org.dflt)):Int)==(Org.cell (x1.getD x5.toNat Ty.org.dflt)))&&(((Org.row (x0.getD x5.toNat Ty.org.dflt)):Int)==(Org.row (x1.getD x5.toNat Ty.org.dflt))))) then(some false) else((xDp N n x0 x1 (i64.wrap (x5+1)))) else none else none) else(some true)
def xER(N:Nat)(a0:List Org)(a1:List Org):Option (Bool):=bif((a0.length:Int) != (a1.length:Int)) then(some false) else((xDp N N a0 a1 0))
def xBU(a0:Val)(a1:Val)(a2:Bool):List Arg:=[.val (.v true (Va .ro a0)),.val (.v true (Va .ro a1)),.val (.v false [.bool a2])]
def xA7(r:Bool):CallO:=⟨.v false [.bool r],[],[]⟩
def xDg(N:Nat)(q0:Val→Val→Bool→Option (Bool)):Nat→Bool→Int→Val→Val→Option (Bool)
 |0,_,_,_,_=>none
 |n+1,x2,x8,b3,b4=>bif(decide (x8<(b3.rows.length:Int))) then(if(0:Int)≤x8∧x8<b3.rows.length then if(0:Int)≤x8∧x8<b4.rows.length then(xGm N (Rowd.cells (b3.rows.getD x8.toNat Ty.row.dflt)) (Rowd.cells (b4.rows.getD x8.toNat Ty.row.dflt))).bind fun r1=>bif(!r1) then(some false) else(bif x2 then((xER N (Rowd.frm (b3.rows.getD x8.toNat Ty.row.dflt)) (Rowd.frm (b4.rows.getD x8.toNat Ty.row.dflt))).bind fun r2=>bif(!r2) then(some false) else((xDg N q0 n x2 (i64.wrap (x8+1)) b3 b4))) else((xDg N q0 n x2 (i64.wrap (x8+1)) b3 b4))) else none else none) else(some true)
def xEd(N:Nat)(q0:Val→Val→Bool→Option (Bool)):Nat→Bool→Int→Val→Val→Option (Bool)
 |0,_,_,_,_=>none
 |n+1,x2,x7,b3,b4=>bif(decide (x7<(b3.list.length:Int))) then(if(0:Int)≤x7∧x7<b3.list.length then if(0:Int)≤x7∧x7<b4.list.length then(q0 (b3.list.getD x7.toNat Ty.val.dflt) (b4.list.getD x7.toNat Ty.val.dflt) x2).bind fun r1=>bif(!r1) then(some false) else((xEd N q0 n x2 (i64.wrap (x7+1)) b3 b4)) else none else none) else((xDg N q0 N x2 0 b3 b4))
def xD9(N:Nat)(q0:Val→Val→Bool→Option (Bool))(a0:Val)(a1:Val)(a2:Bool):Option (Bool):=bif(a0.kind != a1.kind) then(some false) else(bif(a0.n != a1.n) then(some false) else(bif(a0.step != a1.step) then(some false) else(bif(!((a0.text:Str)==a1.text)) then(some false) else(bif((a0.list.length:Int) != (a1.list.length:Int)) then(some false) else((xFJ N a0.columns a1.columns).bind fun r1=>bif(!r1) then(some false) else(bif((a0.rows.length:Int) != (a1.rows.length:Int)) then(some false) else((xEd N q0 N a2 0 a0 a1))))))))
def xCq(N:Nat):Nat→Val→Val→Bool→Option (Bool)
 |0,_,_,_=>none
 |d+1,a0,a1,a2=>xD9 N (xCq N d) a0 a1 a2
def xHI(N:Nat)(a0:Val)(a1:Val)(a2:Bool):Option (Bool):=xCq N N a0 a1 a2
def xEk(a0:Val)(a1:Val):List Arg:=[.val (.v true (Va .ro a0)),.val (.v true (Va .ro a1))]
def xDG(r:Bool):CallO:=⟨.v false [.bool r],[],[]⟩
def xEr(N:Nat)(a0:Val)(a1:Val):Option (Bool):=(xHI N a0 a1 true).bind fun r1=>some r1
def xDt(a0:List Org)(a1:List Org):List Arg:=[.val (.v false [.sl .ro .org a0]),.val (.v false [.sl .ro .org a1])]
def xAo(r:Bool):CallO:=⟨.v false [.bool r],[],[]⟩
def xCs(N:Nat)(a0:List Org)(a1:List Org):Option (Bool):=(xGO N a0).bind fun r1=>(xGO N a1).bind fun r2=>(xEr N r1 r2).bind fun r3=>some r3
def xEA(a0:Str):List Arg:=[.val (.v false [.str a0])]
def xB8(r:Val):CallO:=⟨.v true (Va .own r),[],[]⟩
def xGE(N:Nat)(a0:Str):Option (Val):=some (Val.mk 2 0 0 a0 [] [] [])
def xD2(a0:Int):List Arg:=[.val (.v false [.int .i64 a0])]
def xBT(r:Val):CallO:=⟨.v true (Va .own r),[],[]⟩
def xFV(N:Nat)(a0:Int):Option (Val):=some (Val.mk 1 a0 0 [] [] [] [])
def xF3(a0:Rowd):List Arg:=[.val (.v true [.sl .ro .int a0.cells,.sl .ro .org a0.frm])]
def xFg(r:Rowd):CallO:=⟨.v true [.sl .own .int (Rowd.cells r),.sl .own .org (Rowd.frm r)],[],[]⟩
def xH6(N:Nat)(a0:Rowd):Option (Rowd):=if 0+a0.cells.length≤Lim then if 0+a0.frm.length≤Lim then some (Rowd.mk ([]++a0.cells) ([]++a0.frm)) else none else none
def xDI(a0:Val):List Arg:=[.val (.v true (Va .ro a0))]
def xCp(r:Val):CallO:=⟨.v true (Va .own r),[],[]⟩
def xGG(N:Nat)(q0:Val→Option (Val)):Nat→Int→Val→Val→Val→Option (Val)
 |0,_,_,_,_=>none
 |n+1,x5,b1,b2,b3=>bif(decide (x5<(b1.rows.length:Int))) then(if(0:Int)≤x5∧x5<b1.rows.length then(xH6 N (b1.rows.getD x5.toNat Ty.row.dflt)).bind fun r1=>if b3.rows.length+ [r1].length≤Lim then(xGG N q0 n (i64.wrap (x5+1)) b1 b2 (Val.mk b3.kind b3.n b3.step b3.text b3.list b3.columns (b3.rows++ [r1]))) else none else none) else(some b3)
def xGF(N:Nat)(q0:Val→Option (Val)):Nat→Int→Val→Val→Val→Option (Val)
 |0,_,_,_,_=>none
 |n+1,x4,b1,b2,b3=>bif(decide (x4<(b1.list.length:Int))) then(if(0:Int)≤x4∧x4<b1.list.length then(q0 (b1.list.getD x4.toNat Ty.val.dflt)).bind fun r1=>if b3.list.length+ [r1.re].length≤Lim then(xGF N q0 n (i64.wrap (x4+1)) b1 b2 (Val.mk b3.kind b3.n b3.step b3.text (b3.list++ [r1.re]) b3.columns b3.rows)) else none else none) else((xGG N q0 N 0 b1 b2 b3))
def xFW(N:Nat)(q0:Val→Option (Val))(a0:Val):Option (Val):=if 0+a0.columns.length≤Lim then(xGF N q0 N 0 a0 (Val.mk 0 0 0 [] [] [] []) (Val.mk a0.kind a0.n a0.step a0.text [] ([]++a0.columns) [])) else none
def xGn(N:Nat):Nat→Val→Option (Val)
 |0,_=>none
 |d+1,a0=>xFW N (xGn N d) a0
def xIQ(N:Nat)(a0:Val):Option (Val):=xGn N N a0
def xEz(a0:List Val):List Arg:=[.val (.v false [.sl .ro .val a0])]
def xBc(r:Val):CallO:=⟨.v true (Va .own r),[],[]⟩
def xFx(N:Nat):Nat→(List Val)→Int→Val→Val→Option (Val)
 |0,_,_,_,_=>none
 |n+1,x0,x4,b2,b3=>bif(decide (x4<(x0.length:Int))) then(if(0:Int)≤x4∧x4<x0.length then(xIQ N (x0.getD x4.toNat Ty.val.dflt)).bind fun r1=>if b3.list.length+ [r1.re].length≤Lim then(xFx N n x0 (i64.wrap (x4+1)) b2 (Val.mk b3.kind b3.n b3.step b3.text (b3.list++ [r1.re]) b3.columns b3.rows)) else none else none) else(some b3)
def xFB(N:Nat)(a0:List Val):Option (Val):=(xFx N N a0 0 (Val.mk 0 0 0 [] [] [] []) (Val.mk 3 0 0 [] [] [] []))
def xC0(a0:Int)(a1:Int)(a2:Int):List Arg:=[.val (.v false [.int .i64 a0]),.val (.v false [.int .i64 a1]),.val (.v false [.int .i64 a2])]
def xB2(r:Bool):CallO:=⟨.v false [.bool r],[],[]⟩
def xFv(N:Nat)(a0:Int)(a1:Int)(a2:Int):Option (Bool):=bif(decide (a1≤a0)) then(some (decide (a0≤a2))) else(some false)
def xCr(a0:Int):List Arg:=[.val (.v false [.int .i64 a0])]
def xBw(r:Bool):CallO:=⟨.v false [.bool r],[],[]⟩
def xEx(N:Nat)(a0:Int):Option (Bool):=(xFv N a0 (-1000000000) 1000000000).bind fun r1=>some r1
def xDX(a0:Str):List Arg:=[.val (.v false [.str a0])]
def xB4(r:Bool):CallO:=⟨.v false [.bool r],[],[]⟩
def xEV(N:Nat):Nat→Str→Int→Option (Bool)
 |0,_,_=>none
 |n+1,x0,x3=>bif(decide (x3<(x0.length:Int))) then(if(0:Int)≤x3∧x3<x0.length then bif(decide ((((x0.getD x3.toNat 0).toNat:Int):Int)<32)) then(some false) else(bif(decide ((((x0.getD x3.toNat 0).toNat:Int):Int)>126)) then(some false) else(bif((((x0.getD x3.toNat 0).toNat:Int):Int)==34) then(some false) else((xEV N n x0 (i64.wrap (x3+1)))))) else none) else(some (decide ((x0.length:Int)≤20)))
def xFN(N:Nat)(a0:Str):Option (Bool):=(xEV N N a0 0)
def xEL(a0:Str):List Arg:=[.val (.v false [.str a0])]
def xB1(r:Bool):CallO:=⟨.v false [.bool r],[],[]⟩
def xEM(N:Nat):Nat→Str→Int→Option (Bool)
 |0,_,_=>none
 |n+1,x0,x3=>bif(decide (x3<(x0.length:Int))) then(if(0:Int)≤x3∧x3<x0.length then bif(decide ((((x0.getD x3.toNat 0).toNat:Int):Int)≥97)) then(bif(!(decide ((((x0.getD x3.toNat 0).toNat:Int):Int)≤122))) then(bif(x3==0) then(some false) else(bif(decide ((((x0.getD x3.toNat 0).toNat:Int):Int)<48)) then(some false) else(bif(decide ((((x0.getD x3.toNat 0).toNat:Int):Int)>57)) then(some false) else((xEM N n x0 (i64.wrap (x3+1))))))) else((xEM N n x0 (i64.wrap (x3+1))))) else(bif(x3==0) then(some false) else(bif(decide ((((x0.getD x3.toNat 0).toNat:Int):Int)<48)) then(some false) else(bif(decide ((((x0.getD x3.toNat 0).toNat:Int):Int)>57)) then(some false) else((xEM N n x0 (i64.wrap (x3+1))))))) else none) else((xFv N (x0.length:Int) 1 8).bind fun r1=>some r1)
def xHF(N:Nat)(a0:Str):Option (Bool):=(xEM N N a0 0)
def xAx(a0:Str):List Arg:=[.val (.v false [.str a0])]
def xAt(r:Int):CallO:=⟨.v false [.int .i64 r],[],[]⟩
def xE6(N:Nat)(a0:Str):Option (Int):=bif((a0:Str)== [99,108,111,99,107]) then(some 0) else(bif((a0:Str)== [108,101,110]) then(some 1) else(bif((a0:Str)== [115,117,109]) then(some 1) else(bif((a0:Str)== [114,111,119,115]) then(some 1) else(bif((a0:Str)== [99,104,97,110,99,101]) then(some 1) else(bif((a0:Str)== [102,105,108,101]) then(some 1) else(bif((a0:Str)== [116,97,107,101]) then(some 2) else(bif((a0:Str)== [115,107,105,112]) then(some 2) else(bif((a0:Str)== [114,97,110,103,101]) then(some 2) else(bif((a0:Str)== [110,116,104]) then(some 2) else(bif((a0:Str)== [107,101,101,112]) then(some 2) else(bif((a0:Str)== [99,111,108,117,109,110]) then(some 2) else(bif((a0:Str)== [116,97,98,108,101]) then(some 2) else(bif((a0:Str)== [119,104,101,114,101]) then(some 3) else(bif((a0:Str)== [103,114,111,117,112]) then(some 3) else(bif((a0:Str)== [106,111,105,110]) then(some 3) else(bif((a0:Str)== [97,100,100]) then(some 4) else(some (-1))))))))))))))))))
def xBQ(a0:Str):List Arg:=[.val (.v false [.str a0])]
def xBE(r:Bool):CallO:=⟨.v false [.bool r],[],[]⟩
def xGe(N:Nat)(a0:Str):Option (Bool):=bif((a0:Str)== [108,101,116]) then(some true) else(bif((a0:Str)== [105,110]) then(some true) else(bif((a0:Str)== [105,102]) then(some true) else(bif((a0:Str)== [116,104,101,110]) then(some true) else(bif((a0:Str)== [101,108,115,101]) then(some true) else(bif((a0:Str)== [102,111,114]) then(some true) else(bif((a0:Str)== [100,111]) then(some true) else((xE6 N a0).bind fun r1=>some (decide (r1≥0)))))))))
def xCQ(a0:Str):List Arg:=[.val (.v false [.str a0])]
def xCb(r:Bool):CallO:=⟨.v false [.bool r],[],[]⟩
def xFM(N:Nat)(a0:Str):Option (Bool):=(xHF N a0).bind fun r1=>bif r1 then((xGe N a0).bind fun r2=>some (!r2)) else(some false)
def xEn(a0:List Str)(a1:Str):List Arg:=[.val (.v false [.sl .ro .str a0]),.val (.v false [.str a1])]
def xCC(r:Int):CallO:=⟨.v false [.int .i64 r],[],[]⟩
def xGd(N:Nat):Nat→Str→(List Str)→Int→Int→Option (Int)
 |0,_,_,_,_=>none
 |n+1,x1,x7,x8,x9=>bif(decide (x9<x8)) then(if(0:Int)≤x9∧x9<x7.length then bif(((x7.getD x9.toNat Ty.str.dflt):Str)==x1) then(some x9) else((xGd N n x1 x7 x8 (i64.wrap (x9+1)))) else none) else(some (-1))
def xHd(N:Nat)(a0:List Str)(a1:Str):Option (Int):=(xGd N N a1 a0 (a0.length:Int) 0)
def xDW(a0:List Str):List Arg:=[.val (.v false [.sl .ro .str a0])]
def xCv(r:Bool):CallO:=⟨.v false [.bool r],[],[]⟩
def xEU(N:Nat):Nat→(List Str)→(List Str)→Int→Int→Option (Bool)
 |0,_,_,_,_=>none
 |n+1,x0,x5,x6,x7=>bif(decide (x7<x6)) then(if(0:Int)≤x7∧x7<x5.length then(xHd N x0 (x5.getD x7.toNat Ty.str.dflt)).bind fun r1=>bif(r1 != x7) then(some false) else((xEU N n x0 x5 x6 (i64.wrap (x7+1)))) else none) else(some true)
def xFK(N:Nat)(a0:List Str):Option (Bool):=(xEU N N a0 a0 (a0.length:Int) 0)
def xB0(a0:List Str):List Arg:=[.val (.v false [.sl .ro .str a0])]
def xAL(r:Bool):CallO:=⟨.v false [.bool r],[],[]⟩
def xE8(N:Nat):Nat→(List Str)→(List Str)→Int→Int→Option (Bool)
 |0,_,_,_,_=>none
 |n+1,x0,x5,x6,x7=>bif(decide (x7<x6)) then(if(0:Int)≤x7∧x7<x5.length then(xFM N (x5.getD x7.toNat Ty.str.dflt)).bind fun r1=>bif(!r1) then(some false) else((xE8 N n x0 x5 x6 (i64.wrap (x7+1)))) else none) else((xFv N (x0.length:Int) 1 4).bind fun r1=>bif r1 then((xFK N x0).bind fun r2=>some r2) else(some false))
def xEp(N:Nat)(a0:List Str):Option (Bool):=(xE8 N N a0 a0 (a0.length:Int) 0)
def xDs(a0:Val):List Arg:=[.val (.v true (Va .ro a0))]
def xBf(r:Bool):CallO:=⟨.v false [.bool r],[],[]⟩
def xET(N:Nat)(k4:(List Rowd)→Int→Int→Val→Option (Bool)):Nat→(List Rowd)→Int→Int→(List Org)→Int→Int→Val→Rowd→Option (Bool)
 |0,_,_,_,_,_,_,_,_=>none
 |n+1,x20,x21,x22,x45,x46,x47,b1,b4=>bif(decide (x47<x46)) then(if(0:Int)≤x47∧x47<x45.length then bif(decide (((Org.cell (x45.getD x47.toNat Ty.org.dflt)):Int)<0)) then(some false) else(bif(decide (((Org.row (x45.getD x47.toNat Ty.org.dflt)):Int)<0)) then(some false) else(bif(decide (x47>0)) then(if(0:Int)≤(i64.wrap (x47 - 1))∧(i64.wrap (x47 - 1))<b4.frm.length then(xDl N (b4.frm.getD (Int.toNat (i64.wrap (x47 - 1))) Ty.org.dflt) (x45.getD x47.toNat Ty.org.dflt)).bind fun r1=>bif(!r1) then(some false) else((xET N k4 n x20 x21 x22 x45 x46 (i64.wrap (x47+1)) b1 b4)) else none) else((xET N k4 n x20 x21 x22 x45 x46 (i64.wrap (x47+1)) b1 b4)))) else none) else((k4 x20 x21 (i64.wrap (x22+1)) b1))
def xGh(N:Nat)(k4:(List Rowd)→Int→Int→Val→Option (Bool)):Nat→(List Rowd)→Int→Int→(List Int)→Int→Int→Val→Rowd→Option (Bool)
 |0,_,_,_,_,_,_,_,_=>none
 |n+1,x20,x21,x22,x34,x35,x36,b1,b4=>bif(decide (x36<x35)) then(if(0:Int)≤x36∧x36<x34.length then(xEx N (x34.getD x36.toNat Ty.int.dflt)).bind fun r1=>bif(!r1) then(some false) else((xGh N k4 n x20 x21 x22 x34 x35 (i64.wrap (x36+1)) b1 b4)) else none) else((xET N k4 N x20 x21 x22 b4.frm (b4.frm.length:Int) 0 b1 b4))
def xGg(N:Nat):Nat→(List Rowd)→Int→Int→Val→Option (Bool)
 |0,_,_,_,_=>none
 |n+1,x20,x21,x22,b1=>bif(decide (x22<x21)) then(if(0:Int)≤x22∧x22<x20.length then bif(((List.length (Rowd.cells (x20.getD x22.toNat Ty.row.dflt)):Int):Int) != (b1.columns.length:Int)) then(some false) else((xGh N (fun z0 z1 z2 z3=>(xGg N n z0 z1 z2 z3)) N x20 x21 x22 (Rowd.cells (x20.getD x22.toNat Ty.row.dflt)) (List.length (Rowd.cells (x20.getD x22.toNat Ty.row.dflt)):Int) 0 b1 (x20.getD x22.toNat Ty.row.dflt))) else none) else(some true)
def xGs(N:Nat)(a0:Val):Option (Bool):=(xEp N a0.columns).bind fun r1=>bif(!r1) then(some false) else(bif(decide ((a0.rows.length:Int)>12)) then(some false) else((xGg N N a0.rows (a0.rows.length:Int) 0 a0)))
def xDr(a0:Val):List Arg:=[.val (.v true (Va .ro a0))]
def xCn(r:Int):CallO:=⟨.v false [.int .i64 r],[],[]⟩
def xGb(N:Nat)(q0:Val→Option (Int)):Nat→Int→(List Val)→Int→Int→Option (Int)
 |0,_,_,_,_=>none
 |n+1,x3,x7,x8,x9=>bif(decide (x9<x8)) then(if(0:Int)≤x9∧x9<x7.length then(q0 (x7.getD x9.toNat Ty.val.dflt)).bind fun r1=>(xGb N q0 n (if r1>x3 then r1 else x3) x7 x8 (i64.wrap (x9+1))) else none) else(some (i64.wrap (x3+1)))
def xFq(N:Nat)(q0:Val→Option (Int))(a0:Val):Option (Int):=(xGb N q0 N 0 a0.list (a0.list.length:Int) 0)
def xFL(N:Nat):Nat→Val→Option (Int)
 |0,_=>none
 |d+1,a0=>xFq N (xFL N d) a0
def xIa(N:Nat)(a0:Val):Option (Int):=xFL N N a0
def xAe(a0:Val):List Arg:=[.val (.v true (Va .ro a0))]
def xAb(r:Bool):CallO:=⟨.v false [.bool r],[],[]⟩
def xCc(N:Nat)(q0:Val→Option (Bool)):Nat→(List Val)→Int→Int→Val→Option (Bool)
 |0,_,_,_,_=>none
 |n+1,x124,x125,x126,b1=>bif(decide (x126<x125)) then(if(0:Int)≤x126∧x126<x124.length then bif(((Val.kind (x124.getD x126.toNat Ty.val.dflt)):Int) != 1) then(bif(((Val.kind (x124.getD x126.toNat Ty.val.dflt)):Int) != 2) then(bif(((Val.kind (x124.getD x126.toNat Ty.val.dflt)):Int) != 3) then(some false) else((q0 (x124.getD x126.toNat Ty.val.dflt)).bind fun r1=>bif(!r1) then(some false) else((xCc N q0 n x124 x125 (i64.wrap (x126+1)) b1)))) else((q0 (x124.getD x126.toNat Ty.val.dflt)).bind fun r1=>bif(!r1) then(some false) else((xCc N q0 n x124 x125 (i64.wrap (x126+1)) b1)))) else((q0 (x124.getD x126.toNat Ty.val.dflt)).bind fun r1=>bif(!r1) then(some false) else((xCc N q0 n x124 x125 (i64.wrap (x126+1)) b1))) else none) else(bif(b1.n==0) then(bif(b1.step==0) then(bif((b1.text:Str)== []) then(bif((b1.columns.length:Int)==0) then(bif((b1.rows.length:Int)==0) then(bif(decide ((b1.list.length:Int)≤8)) then((xIa N b1).bind fun r1=>some (decide (r1≤3))) else(some false)) else(some false)) else(some false)) else(some false)) else(some false)) else(some false))
def xEf(N:Nat)(q0:Val→Option (Bool))(a0:Val):Option (Bool):=bif((a0.list.length:Int)==0) then(bif((a0.columns.length:Int)==0) then(bif(a0.kind==1) then(bif((a0.rows.length:Int)==0) then(bif(a0.step==0) then(bif((a0.text:Str)== []) then((xEx N a0.n).bind fun r1=>some r1) else(some false)) else(some false)) else(some false)) else(bif(a0.kind==2) then(bif((a0.rows.length:Int)==0) then(bif(a0.n==0) then(bif(a0.step==0) then((xFN N a0.text).bind fun r1=>some r1) else(some false)) else(some false)) else(some false)) else(bif(a0.kind==4) then(bif((a0.rows.length:Int)==0) then(bif((a0.text:Str)== []) then((xEx N a0.n).bind fun r1=>bif r1 then((xEx N a0.step).bind fun r2=>some r2) else(some false)) else(some false)) else(some false)) else(bif(a0.kind==6) then(bif((a0.rows.length:Int)==0) then(bif(a0.step==0) then(bif((a0.text:Str)== []) then((xFv N a0.n 1 8).bind fun r1=>some r1) else(some false)) else(some false)) else(some false)) else(bif(a0.kind==5) then(bif(a0.n==0) then(bif(a0.step==0) then(bif((a0.text:Str)== []) then((xGs N a0).bind fun r1=>some r1) else(some false)) else(some false)) else(some false)) else(bif(a0.kind==3) then((xCc N q0 N a0.list (a0.list.length:Int) 0 a0)) else(some false))))))) else(bif(a0.kind==1) then(some false) else(bif(a0.kind==2) then(some false) else(bif(a0.kind==4) then(some false) else(bif(a0.kind==6) then(
     some false) else(bif(a0.kind==5) then(bif(a0.n==0) then(bif(a0.step==0) then(bif((a0.text:Str)== []) then((xGs N a0).bind fun r1=>some r1) else(some false)) else(some false)) else(some false)) else(bif(a0.kind==3) then((xCc N q0 N a0.list (a0.list.length:Int) 0 a0)) else(some false)))))))) else(bif(a0.kind==1) then(some false) else(bif(a0.kind==2) then(some false) else(bif(a0.kind==4) then(some false) else(bif(a0.kind==6) then(some false) else(bif(a0.kind==5) then(bif(a0.n==0) then(bif(a0.step==0) then(bif((a0.text:Str)== []) then(some false) else(some false)) else(some false)) else(some false)) else(bif(a0.kind==3) then((xCc N q0 N a0.list (a0.list.length:Int) 0 a0)) else(some false)))))))
def xEo(N:Nat):Nat→Val→Option (Bool)
 |0,_=>none
 |d+1,a0=>xEf N (xEo N d) a0
def xFr(N:Nat)(a0:Val):Option (Bool):=xEo N N a0
def xC4(a0:Int):List Arg:=[.val (.v false [.int .i64 a0])]
def xBb(r:Val):CallO:=⟨.v true (Va .own r),[],[]⟩
def xB5(N:Nat)(a0:Int):Option (Val):=some (Val.mk 6 a0 0 [] [] [] [])
def xCj(a0:List Val):List Arg:=[.val (.v false [.sl .ro .val a0])]
def xCz(r:Val×Bool×Bool):CallO:=⟨.tup [(true,[.int .i64 (Val.kind r.1),.int .i64 (Val.n r.1),.int .i64 (Val.step r.1),.str (Val.text r.1),.sl .ro .val (Val.list r.1),.sl .ro .str (Val.columns r.1),.sl .ro .row (Val.rows r.1)]),(false,[.bool r.2.1])],[],[]⟩
def xCy(r:Val×Bool×Bool):CallO:=⟨.tup [(true,[.int .i64 (Val.kind r.1),.int .i64 (Val.n r.1),.int .i64 (Val.step r.1),.str (Val.text r.1),.sl .own .val (Val.list r.1),.sl .own .str (Val.columns r.1),.sl .own .row (Val.rows r.1)]),(false,[.bool r.2.1])],[],[]⟩
def xBI(r:Val×Bool×Bool):CallO:=bif r.2.2 then xCz r else xCy r
def xEE(N:Nat):Nat→(List Val)→Int→Int→Val→Option (Val×Bool×Bool)
 |0,_,_,_,_=>none
 |n+1,x6,x7,x8,b2=>bif(decide (x8<x7)) then(if(0:Int)≤x8∧x8<x6.length then(xFr N (x6.getD x8.toNat Ty.val.dflt)).bind fun r1=>bif(!r1) then((xB5 N 4).bind fun r2=>some (r2,true,false)) else(bif(((Val.kind (x6.getD x8.toNat Ty.val.dflt)):Int)==6) then(some ((x6.getD x8.toNat Ty.val.dflt),true,true)) else((xEE N n x6 x7 (i64.wrap (x8+1)) b2))) else none) else(some ((Val.mk 0 0 0 [] [] [] []),false,false))
def xFu(N:Nat)(a0:List Val):Option (Val×Bool×Bool):=(xEE N N a0 (a0.length:Int) 0 (Val.mk 0 0 0 [] [] [] []))
def xCV(a0:List Int)(a1:List Val):List Arg:=[.val (.v false [.sl .ro .int a0]),.val (.v false [.sl .ro .val a1])]
def xFb(r:Val×Bool×Bool):CallO:=⟨.tup [(true,[.int .i64 (Val.kind r.1),.int .i64 (Val.n r.1),.int .i64 (Val.step r.1),.str (Val.text r.1),.sl .ro .val (Val.list r.1),.sl .ro .str (Val.columns r.1),.sl .ro .row (Val.rows r.1)]),(false,[.bool r.2.1])],[],[]⟩
def xCk(r:Val×Bool×Bool):CallO:=⟨.tup [(true,[.int .i64 (Val.kind r.1),.int .i64 (Val.n r.1),.int .i64 (Val.step r.1),.str (Val.text r.1),.sl .own .val (Val.list r.1),.sl .own .str (Val.columns r.1),.sl .own .row (Val.rows r.1)]),(false,[.bool r.2.1])],[],[]⟩
def xCG(r:Val×Bool×Bool):CallO:=⟨.tup [(true,[.int .i64 (Val.kind r.1),.int .i64 (Val.n r.1),.int .i64 (Val.step r.1),.str (Val.text r.1),.sl .ro .val [],.sl .ro .str [],.sl .ro .row []]),(false,[.bool r.2.1])],[],[]⟩
def xBM(r:Val×Bool×Bool):CallO:=bif r.2.2 then xFb r else xCk r
def xEy(N:Nat):Nat→(List Int)→(List Val)→Int→Int→Val→Option (Val×Bool×Bool)
 |0,_,_,_,_,_=>none
 |n+1,x0,x17,x18,x19,b4=>bif(decide (x19<x18)) then(if(0:Int)≤x19∧x19<x17.length then if(0:Int)≤x19∧x19<x0.length then bif(((Val.kind (x17.getD x19.toNat Ty.val.dflt)):Int) != (x0.getD x19.toNat Ty.int.dflt)) then((xB5 N 4).bind fun r1=>some (r1,true,false)) else((xEy N n x0 x17 x18 (i64.wrap (x19+1)) b4)) else none else none) else(some ((Val.mk 0 0 0 [] [] [] []),false,false))
def xGB(N:Nat)(a0:List Int)(a1:List Val):Option (Val×Bool×Bool):=(xFu N a1).bind fun r1=>bif r1.2.2 then(bif r1.2.1 then(some (r1.1,true,true)) else((xEy N N a0 a1 (a1.length:Int) 0 (Val.mk 0 0 0 [] [] [] [])))) else(bif r1.2.1 then(some (r1.1,true,false)) else((xEy N N a0 a1 (a1.length:Int) 0 (Val.mk 0 0 0 [] [] [] []))))
def xG9(a0:Str)(a1:Str):List Arg:=[.val (.v false [.str a0]),.val (.v false [.str a1])]
def xFX(r:(List Str)):CallO:=⟨.v false [.sl .own .str r],[],[]⟩
def xHY(N:Nat)(a0:Str)(a1:Str):Option (List Str):=zIq a0 a1
def xCT(a0:Str)(a1:Int):List Arg:=[.val (.v false [.str a0]),.val (.v false [.int .u8 a1])]
def xBX(r:(List Str)):CallO:=⟨.v false [.sl .own .str r],[],[]⟩
def xFz(N:Nat)(a0:Str)(a1:Int):Option ((List Str)):=(xHY N a0 (List.map (fun n=>UInt8.ofNat (Int.toNat n)) [a1])).bind fun r1=>some r1
def xBR(a0:Val)(a1:Val):List Arg:=[.val (.v true (Va .ro a0)),.val (.v true (Va .ro a1))]
def xFP(r:Val×Bool):CallO:=⟨.v true [.int .i64 (Val.kind r.1),.int .i64 (Val.n r.1),.int .i64 (Val.step r.1),.str (Val.text r.1),.sl .ro .val (Val.list r.1),.sl .ro .str (Val.columns r.1),.sl .ro .row (Val.rows r.1)],[],[]⟩
def xCM(r:Val×Bool):CallO:=⟨.v true [.int .i64 (Val.kind r.1),.int .i64 (Val.n r.1),.int .i64 (Val.step r.1),.str (Val.text r.1),.sl .own .val (Val.list r.1),.sl .own .str (Val.columns r.1),.sl .own .row (Val.rows r.1)],[],[]⟩
def xC9(r:Val×Bool):CallO:=⟨.v true [.int .i64 (Val.kind r.1),.int .i64 (Val.n r.1),.int .i64 (Val.step r.1),.str (Val.text r.1),.sl .ro .val [],.sl .ro .str [],.sl .ro .row []],[],[]⟩
def xBn(r:Val×Bool):CallO:=bif r.2 then xFP r else xCM r
def xFO(N:Nat)(k8:(List Val)→Int→Int→Val→Val→Option (Val×Bool)):Nat→(List Val)→Int→Int→(List Val)→Int→Int→Val→Val→Rowd→Option (Val×Bool)
 |0,_,_,_,_,_,_,_,_,_=>none
 |n+1,x33,x34,x35,x54,x55,x56,b4,b7,b10=>bif(decide (x56<x55)) then(if(0:Int)≤x56∧x56<x54.length then bif(((Val.kind (x54.getD x56.toNat Ty.val.dflt)):Int) != 1) then((xB5 N 4).bind fun r1=>some (r1,false)) else(if b10.cells.length+ [(Val.n (x54.getD x56.toNat Ty.val.dflt))].length≤Lim then(xFO N k8 n x33 x34 x35 x54 x55 (i64.wrap (x56+1)) b4 b7 (Rowd.mk (b10.cells++ [(Val.n (x54.getD x56.toNat Ty.val.dflt))]) b10.frm)) else none) else none) else(if b7.rows.length+ [b10].length≤Lim then(k8 x33 x34 (i64.wrap (x35+1)) b4 (Val.mk b7.kind b7.n b7.step b7.text b7.list b7.columns (b7.rows++ [b10]))) else none)
def xE7(N:Nat):Nat→(List Val)→Int→Int→Val→Val→Option (Val×Bool)
 |0,_,_,_,_,_=>none
 |n+1,x33,x34,x35,b4,b7=>bif(decide (x35<x34)) then(if(0:Int)≤x35∧x35<x33.length then bif(((Val.kind (x33.getD x35.toNat Ty.val.dflt)):Int) != 3) then((xB5 N 4).bind fun r1=>some (r1,false)) else(bif(((List.length (Val.list (x33.getD x35.toNat Ty.val.dflt)):Int):Int) != (b7.columns.length:Int)) then((xB5 N 4).bind fun r1=>some (r1,false)) else((xFO N (fun z0 z1 z2 z3 z4=>(xE7 N n z0 z1 z2 z3 z4)) N x33 x34 x35 (Val.list (x33.getD x35.toNat Ty.val.dflt)) (List.length (Val.list (x33.getD x35.toNat Ty.val.dflt)):Int) 0 b4 b7 (Rowd.mk [] [])))) else none) else(some (b7,false))
def xFD(N:Nat)(a0:Val)(a1:Val):Option (Val×Bool):=(xGB N [2,3] [a0.re,a1.re]).bind fun r1=>bif r1.2.2 then(if List.isEmpty r1.1.list=true then if List.isEmpty r1.1.columns=true then if List.isEmpty r1.1.rows=true then bif r1.2.1 then(some ((Val.mk r1.1.kind r1.1.n r1.1.step r1.1.text [] [] []),true)) else((xFz N a0.text 32).bind fun r2=>(xEp N r2).bind fun r3=>bif(!r3) then((xB5 N 7).bind fun r4=>some (r4,false)) else((xE7 N N a1.list (a1.list.length:Int) 0 (Val.mk 0 0 0 [] [] [] []) (Val.mk 5 0 0 [] [] r2 [])))) else none else none else none) else(bif r1.2.1 then(some (r1.1,false)) else((xFz N a0.text 32).bind fun r2=>(xEp N r2).bind fun r3=>bif(!r3) then((xB5 N 7).bind fun r4=>some (r4,false)) else((xE7 N N a1.list (a1.list.length:Int) 0 (Val.mk 0 0 0 [] [] [] []) (Val.mk 5 0 0 [] [] r2 [])))))
def xE9(a0:Rowd):List Arg:=[.val (.v true [.sl .ro .int a0.cells,.sl .ro .org a0.frm])]
def xEq(r:Rowd):CallO:=⟨.v true [.sl .own .int (Rowd.cells r),.sl .own .org (Rowd.frm r)],[],[]⟩
def xHf(N:Nat)(a0:Rowd):Option (Rowd):=if 0+a0.cells.length≤Lim then if 0+a0.frm.length≤Lim then some (Rowd.mk ([]++a0.cells) ([]++a0.frm)) else none else none
def xCU(a0:Val):List Arg:=[.val (.v true (Va .ro a0))]
def xB7(r:Val):CallO:=⟨.v true (Va .own r),[],[]⟩
def xFs(N:Nat)(q0:Val→Option (Val))(q1:(List Val)→Option ((List Val))):Nat→(List Rowd)→Int→Int→Val→Val→Option (Val)
 |0,_,_,_,_,_=>none
 |n+1,x18,x19,x20,b2,b3=>bif(decide (x20<x19)) then(if(0:Int)≤x20∧x20<x18.length then(xHf N (x18.getD x20.toNat Ty.row.dflt)).bind fun r1=>if b3.rows.length+ [r1].length≤Lim then(xFs N q0 q1 n x18 x19 (i64.wrap (x20+1)) b2 (Val.mk b3.kind b3.n b3.step b3.text b3.list b3.columns (b3.rows++ [r1]))) else none else none) else(some b3)
def xEX(N:Nat)(q0:Val→Option (Val))(q1:(List Val)→Option ((List Val)))(a0:Val):Option (Val):=(q1 a0.list).bind fun r1=>if 0+a0.columns.length≤Lim then(xFs N q0 q1 N a0.rows (a0.rows.length:Int) 0 (Val.mk 0 0 0 [] [] [] []) (Val.mk a0.kind a0.n a0.step a0.text r1 ([]++a0.columns) [])) else none
def xDD(a0:List Val):List Arg:=[.val (.v false [.sl .ro .val a0])]
def xCF(r:(List Val)):CallO:=⟨.v false [.sl .own .val r],[],[]⟩
def xFa(N:Nat)(q0:Val→Option (Val))(q1:(List Val)→Option ((List Val))):Nat→(List Val)→(List Val)→Int→Int→Option ((List Val))
 |0,_,_,_,_=>none
 |n+1,x3,x7,x8,x9=>bif(decide (x9<x8)) then(if(0:Int)≤x9∧x9<x7.length then(q0 (x7.getD x9.toNat Ty.val.dflt)).bind fun r1=>if x3.length+ [r1.re].length≤Lim then(xFa N q0 q1 n (x3++ [r1.re]) x7 x8 (i64.wrap (x9+1))) else none else none) else(some x3)
def xED(N:Nat)(q0:Val→Option (Val))(q1:(List Val)→Option ((List Val)))(a0:List Val):Option ((List Val)):=(xFa N q0 q1 N [] a0 (a0.length:Int) 0)
structure impl_copyValue_rec where
 c_impl_copyValue:Val→Option (Val)
 c_impl_copyValues:(List Val)→Option ((List Val))
def xCE(N:Nat):Nat→impl_copyValue_rec
 |0=>⟨fun _=>none,fun _=>none⟩
 |d+1=>⟨xEX N (xCE N d).c_impl_copyValue (xCE N d).c_impl_copyValues,xED N (xCE N d).c_impl_copyValue (xCE N d).c_impl_copyValues⟩
def xHv(N:Nat)(a0:Val):Option (Val):=(xCE N N).c_impl_copyValue a0
def xBS(a0:Int)(a1:Val):List Arg:=[.val (.v false [.int .i64 a0]),.val (.v true (Va .ro a1))]
def xAS(r:Val):CallO:=⟨.v true (Va .own r),[],[]⟩
def xEW(N:Nat):Nat→Int→Int→Int→Val→Val→Option (Val)
 |0,_,_,_,_,_=>none
 |n+1,x0,x24,x25,b4,b5=>bif(decide (x25<x24)) then(if(0:Int)≤x25∧x25<b5.rows.length then(xEW N n x0 x24 (i64.wrap (x25+1)) b4 (Val.mk b5.kind b5.n b5.step b5.text b5.list b5.columns (b5.rows.set x25.toNat (Rowd.mk (Rowd.cells (b5.rows.getD x25.toNat Ty.row.dflt)) [(Org.mk x0 x25)])))) else none) else(some b5)
def xD5(N:Nat)(a0:Int)(a1:Val):Option (Val):=bif(a1.kind != 5) then((xB5 N 4).bind fun r1=>some r1) else((xFr N a1).bind fun r1=>bif(!r1) then((xB5 N 4).bind fun r2=>some r2) else(bif(decide (a0<0)) then((xB5 N 4).bind fun r2=>some r2) else((xHv N a1).bind fun r2=>(xEW N N a0 (r2.rows.length:Int) 0 (Val.mk 0 0 0 [] [] [] []) r2))))
def xCR(a0:Val):List Arg:=[.val (.v true (Va .ro a0))]
def xBL(r:(List Org)):CallO:=⟨.v false [.sl .own .org r],[],[]⟩
def xDj(N:Nat):Nat→(List Org)→(List Rowd)→Int→Int→Option ((List Org))
 |0,_,_,_,_=>none
 |n+1,x3,x8,x9,x10=>bif(decide (x10<x9)) then(if(0:Int)≤x10∧x10<x8.length then(xBY N x3 (Rowd.frm (x8.getD x10.toNat Ty.row.dflt))).bind fun r1=>(xDj N n r1 x8 x9 (i64.wrap (x10+1))) else none) else(some x3)
def xEJ(N:Nat)(a0:Val):Option ((List Org)):=(xDj N N [] a0.rows (a0.rows.length:Int) 0)
def xDP(a0:List Org)(a1:Org):List Arg:=[.val (.v false [.sl .ro .org a0]),.val (.v true [.int .i64 a1.cell,.int .i64 a1.row])]
def xCg(r:Bool):CallO:=⟨.v false [.bool r],[],[]⟩
def xFt(N:Nat):Nat→(List Org)→Int→Int→Org→Option (Bool)
 |0,_,_,_,_=>none
 |n+1,x7,x8,x9,b3=>bif(decide (x9<x8)) then(if(0:Int)≤x9∧x9<x7.length then bif((((Org.cell (x7.getD x9.toNat Ty.org.dflt)):Int)==b3.cell)&&(((Org.row (x7.getD x9.toNat Ty.org.dflt)):Int)==b3.row)) then(some true) else((xFt N n x7 x8 (i64.wrap (x9+1)) b3)) else none) else(some false)
def xGA(N:Nat)(a0:List Org)(a1:Org):Option (Bool):=(xFt N N a0 (a0.length:Int) 0 a1)
def xDN(a0:Val)(a1:Org):List Arg:=[.val (.v true (Va .ro a0)),.val (.v true [.int .i64 a1.cell,.int .i64 a1.row])]
def xCx(r:(List Int)):CallO:=⟨.v false [.sl .own .int r],[],[]⟩
def xEv(N:Nat):Nat→(List Int)→(List Rowd)→Int→Int→Org→Option ((List Int))
 |0,_,_,_,_,_=>none
 |n+1,x5,x10,x11,x12,b3=>bif(decide (x12<x11)) then(if(0:Int)≤x12∧x12<x10.length then(xGA N (Rowd.frm (x10.getD x12.toNat Ty.row.dflt)) b3).bind fun r1=>bif r1 then(if x5.length+ [x12].length≤Lim then(xEv N n (x5++ [x12]) x10 x11 (i64.wrap (x12+1)) b3) else none) else((xEv N n x5 x10 x11 (i64.wrap (x12+1)) b3)) else none) else(some x5)
def xEK(N:Nat)(a0:Val)(a1:Org):Option ((List Int)):=(xEv N N [] a0.rows (a0.rows.length:Int) 0 a1)
def xDA(a0:List Int)(a1:List Int):List Arg:=[.val (.v false [.sl .ro .int a0]),.val (.v false [.sl .ro .int a1])]
def xCf(r:Bool):CallO:=⟨.v false [.bool r],[],[]⟩
def xDB(N:Nat):Nat→(List Int)→(List Int)→Int→Option (Bool)
 |0,_,_,_=>none
 |n+1,x0,x1,x5=>bif(decide (x5<(x0.length:Int))) then(if(0:Int)≤x5∧x5<x0.length then if(0:Int)≤x5∧x5<x1.length then bif((x0.getD x5.toNat Ty.int.dflt) != (x1.getD x5.toNat Ty.int.dflt)) then(some false) else((xDB N n x0 x1 (i64.wrap (x5+1)))) else none else none) else(some true)
def xDY(N:Nat)(a0:List Int)(a1:List Int):Option (Bool):=bif((a0.length:Int) != (a1.length:Int)) then(some false) else((xDB N N a0 a1 0))
def xBN(a0:List Int):List Arg:=[.val (.v false [.sl .ro .byte a0])]
def xBO(r:Bool):CallO:=⟨.v false [.bool r],[],[]⟩
def xEO(N:Nat)(a0:List Int):Option (Bool):=(xHq N a0).bind fun r1=>bif r1 then(some true) else((xCA N a0).bind fun r2=>(xBY N r2.1 r2.2).bind fun r3=>(xDQ N r2.1 r2.2).bind fun r4=>(xCs N r3 r4).bind fun r5=>bif(!r5) then(some false) else((xBY N r2.2 r2.1).bind fun r6=>(xCs N r3 r6).bind fun r7=>bif(!r7) then(some false) else((xBY N r3 r2.1).bind fun r8=>(xCs N r8 r3).bind fun r9=>bif(!r9) then(some false) else((xGE N [97]).bind fun r10=>(xFV N (r2.1.length:Int)).bind fun r11=>(xFB N [r11.re]).bind fun r12=>(xFB N [r12.re]).bind fun r13=>(xFD N r10 r13).bind fun r14=>bif r14.2 then(if List.isEmpty r14.1.list=true then if List.isEmpty r14.1.columns=true then if List.isEmpty r14.1.rows=true then(xD5 N 3 (Val.mk r14.1.kind r14.1.n r14.1.step r14.1.text [] [] [])).bind fun r15=>bif((r15.rows.length:Int)==1) then((xEJ N r15).bind fun r16=>(xCs N r16 [(Org.mk 3 0)]).bind fun r17=>bif r17 then((xEK N r15 (Org.mk 3 0)).bind fun r18=>(xDY N r18 [0]).bind fun r19=>some r19) else(some false)) else(some false) else none else none else none) else((xD5 N 3 r14.1).bind fun r15=>bif((r15.rows.length:Int)==1) then((xEJ N r15).bind fun r16=>(xCs N r16 [(Org.mk 3 0)]).bind fun r17=>bif r17 then((xEK N r15 (Org.mk 3 0)).bind fun r18=>(xDY N r18 [0]).bind fun r19=>some r19) else(some false)) else(some false))))))
end Go.Ab
end
section
namespace Go.Ab
open Go.Proofs Go.Shelf
variable {P:Program} {ρ:Ren}
theorem xJA(L:Lays.n125 P ρ):∀args w,(callFunc (ρ.f 125) args).run P w= .ok (.enter (ρ.f 125) args) w:=enters_of L.f125 (by kernel_rfl) rfl
end Go.Ab
end
section
namespace Go.Ab
open Go.Lib Go.Extern Go.Proofs Go.Shelf
variable [Inhabited Lb]
def OrgRow(w:World)(br cap:Nat)(xs:List Org):Prop:=
 xs.length≤cap∧∃cs ty lo hi,w.heap[br]? =some (.cells cs ty (lo,hi))∧cap*2=cs.size∧(∀o,lo≤o→o<hi→cap*2≤o)∧
  ∀m (hm:m<xs.length) k (hk:k<2),cs[m*2+k]? =some ((zAu xs[m])[k]'hk)
theorem OrgRow.rd{E:Env}{br cap:Nat}{xs:List Org}(h:OrgRow E.w br cap xs){pl:Pl}{c:Nat}(ho:E.ow br=some (.arr pl c []))(hw:E.hw br=xs.length*2)(n:Nat)(hh:E.hdr n= .slice (some ⟨br,0,none⟩) xs.length cap):
 RdP E.w (okF E pl c (.lnt n)) (qF E pl c (.lnt n)) (.slice (some ⟨br,0,none⟩) xs.length cap) (.sl 2 (xs.map Ty.org.toD)):=by
 obtain⟨hcap,cs,ty,lo,hi,t4,t5,t6,hc⟩:=h
 refine .sl br 0 xs.length cap 2 _ (fun m k=>if h:m<xs.length∧k<2 then(zAu xs[m])[k]'h.2 else .bool false) (by simp) hcap (fun r hr=> ?_) ⟨⟨ho,hw,hcap,cs,ty,lo,hi,t4,t5,t6⟩,fun _=>hh.symm⟩ (fun m k hm hk=> ?_) (fun m k hm hk=> ?_)
 ·obtain⟨y,_,rfl⟩:=List.mem_map.1 hr
  exact Ty.toD_length .org y
 ·rw [dif_pos ⟨hm,hk⟩]
  refine⟨?_,?_,ho⟩
  ·simp only [World.cell?,t4]
   rw [Nat.zero_add]
   exact hc m hm k hk
  ·rw [hw];omega
 ·have hm' :m<xs.length:=by simpa using hm
  have hr:(xs.map Ty.org.toD)[m]=Ty.org.toD xs[m]:=by rw [List.getElem_map]
  have hk' :k<2:=by rw [hr] at hk;exact hk
  rw [dif_pos ⟨hm',hk'⟩]
  simp only [hr]
  match k,hk' with
  |0,_=>exact .int .i64 _
  |1,_=>exact .int .i64 _
theorem OrgRow.of{E:Env}{pl:Pl}{c n br cap:Nat}{xs:List Org}(hx:xs≠ [])(h:RdP E.w (okF E pl c (.lnt n)) (qF E pl c (.lnt n)) (.slice (some ⟨br,0,none⟩) xs.length cap) (.sl 2 (xs.map Ty.org.toD))):OrgRow E.w br cap xs:=by
 obtain⟨b,off,cap',e,hcap,hrl,hq,u,hcl,hk⟩:=RdP.cells h (by simpa using hx)
 rw [List.length_map] at e
 obtain⟨rfl,rfl,rfl⟩:br=b∧0=off∧cap=cap' :=by injection e with e1 e2 e3;injection e1 with e1;injection e1 with e1 e4;exact⟨e1,e4,e3⟩
 obtain⟨t1,t2,t3,cs,ty,lo,hi',t4,t5,t6⟩:=hq.1
 rw [List.length_map] at hcap
 refine⟨hcap,cs,ty,lo,hi',t4,t5,t6,fun m hm k hk2=> ?_⟩
 have g1:=(hcl m k (by simpa using hm) hk2).1
 have hr:((xs.map Ty.org.toD)[m]'(by simpa using hm))=Ty.org.toD xs[m]:=by rw [List.getElem_map]
 have g2:=hk m k (by simpa using hm) (by rw [hr];exact hk2)
 rw [Nat.zero_add] at g1
 simp only [World.cell?,t4] at g1
 simp only [hr] at g2
 match k,hk2,g1,g2 with
 |0,_,g1,g2=>generalize u m 0=x at g1 g2;simp only [Ty.toD,List.getElem_cons_zero] at g2;cases g2;exact g1
 |1,_,g1,g2=>generalize u m 1=x at g1 g2;simp only [Ty.toD,List.getElem_cons_succ,List.getElem_cons_zero] at g2;cases g2;exact g1
structure Sorted (w:World) (bo br cap:Nat) (xs ys:List Org) (w' :World):Prop where
 os:w'.os=w.os
 tape:w'.tape=w.tape
 output:w'.output=w.output
 size:w.heap.size≤w'.heap.size
 old:∀b,b<w.heap.size→b≠bo→b≠br→w'.heap[b]? =w.heap[b]?
 box:∃ty,w'.heap[bo]? =some (.cells #[.slice (some ⟨br,0,none⟩) xs.length cap] ty (0,0))
 row:OrgRow w' br cap ys
theorem xIP{P:Program}{ρ:Ren}(L:LaysGg.n6 P ρ)(t e:TypeId)(i ie:TypeInfo)(hi:P.info? t=some i)(hd:i.desc= .slice e)(hpk:P.packed t=false)(hie:P.info? e=some ie)(ke:Nat)
 (hke:∀w,(Extern.Rtype.kind e).run P w= .ok ke w) (hnp:ie.hasPointers=false) (hby:ie.bytes=16) (f lf:Nat) (hf:P.funcs.findIdx? (·.name== "internal/reflectlite" ++ ".Swapper$9")=some f)
 {xs ys:List Org} (hl:ys.length=xs.length) (h2:2≤xs.length) (hlen:xs.length<4611686018427387904)
 (hpdq:AbsCalls P (ρ.f 14) [.val (.v true [.clo lf [gi 4],.swp f 0 (typeHandle P e) (gi 4)]),.val (.v false [.int .i64 0]),.val (.v false [.int .i64 xs.length]),.val (.v false [.int .i64 (Lib.bitLen xs.length)]),.gbox [.sl (.lnt 0) .org xs]] ⟨.tup [],[[.sl (.lnt 0) .org ys]],[]⟩)
 {w:World} {bo br cap:Nat} {ty:TypeId} (hbo:w.heap[bo]? =some (.cells #[.slice (some ⟨br,0,none⟩) xs.length cap] ty (0,0))) (hbr:OrgRow w br cap xs) (hne:bo≠br)
 (hbase:∀x∈zH7,x.1<w.heap.size∧x.1≠bo∧x.1≠br∧w.heap[x.1]? =some x.2):
 Calls P (ρ.f 6) #[.iface t (.slice (some ⟨br,0,none⟩) xs.length cap),.func (.func lf) #[] #[.pointer (some ⟨bo,0,none⟩)]] w fun en w' =>en= .returned (.tuple #[])∧Sorted w bo br cap xs ys w' :=by
 have hk9:swapperK xs.length ie ke=9:=by
  unfold swapperK
  have e0:(xs.length==0)=false:=beq_eq_false_iff_ne.2 (by omega)
  have e1:(xs.length==1)=false:=beq_eq_false_iff_ne.2 (by omega)
  simp [e0,e1,hnp,hby]
 have hbol:bo<w.heap.size:=(Array.getElem?_eq_some_iff.1 hbo).1
 have hbrl:br<w.heap.size:=by
  obtain⟨_,cs,ty,lo,hi,h,_⟩:=hbr
  exact(Array.getElem?_eq_some_iff.1 h).1
 refine Any.sort_Slice_of_pdq L t e i ie hi hd hpk hie ke hke (some ⟨br,0,none⟩) xs.length cap hlen f (by rw [hk9];exact hf) (.func lf) #[] #[.pointer (some ⟨bo,0,none⟩)] w (Sorted w bo br cap xs ys) ?_
 generalize hW:sliceWorld P ρ t (some ⟨br,0,none⟩) xs.length cap w=W
 have hWs:W.heap.size=w.heap.size+2:=by rw [←hW];unfold sliceWorld;rw [zBt,zBt]
 have hWo:∀b,b<w.heap.size→W.heap[b]? =w.heap[b]? :=by
  intro b hb
  rw [←hW]
  unfold sliceWorld
  have al:∀(w:World) (o:Obj) (b:Nat),b<w.heap.size→(w.alloc o).heap[b]? =w.heap[b]? :=fun w o b hb=>by
   show(w.heap.push o)[b]? =_
   rw [Array.getElem?_push,if_neg (by omega)]
  rw [al _ _ _ (by rw [zBt];omega),al _ _ _ hb]
 have hWos:W.os=w.os∧W.tape=w.tape∧W.output=w.output:=by rw [←hW];exact⟨rfl,rfl,rfl⟩
 let E:Env:= { w:=W,hw:=fun b=>if b=br then xs.length*2 else if b=bo then 0 else match w.heap[b]? with |some o=>zFu o |none=>0,
               ow:=fun b=>if b=bo then some (.box (gi 4)) else if b=br then some (.arr (.k (2*gi 4+1)) 0 []) else none,bx:=fun _=>bo,hdr:=fun _=> .slice (some ⟨br,0,none⟩) xs.length cap }
 have o1:E.ow bo=some (.box (gi 4)):=if_pos rfl
 have o2:E.ow br=some (.arr (.k (2*gi 4+1)) 0 []):=by show(if br=bo then _ else _)=_;rw [if_neg (Ne.symm hne),if_pos rfl]
 have o3:∀b,b≠bo→b≠br→E.ow b=none:=fun b h1 h2=>by show(if b=bo then _ else _)=_;rw [if_neg h1,if_neg h2]
 have hw2:E.hw br=xs.length*2:=if_pos rfl
 have hE:EnvOk E:=by
  refine⟨fun b hb=> ?_,fun b b' l h1 h2=> ?_,fun b s h=> ?_⟩
  ·have hb:W.heap.size≤b:=hb
   refine⟨o3 b (by omega) (by omega),?_⟩
   show(if b=br then _ else _)=_
   rw [if_neg (by omega),if_neg (by omega),Array.getElem?_eq_none (by omega)]
  ·by_cases c1:b=bo
   ·subst c1
    rw [o1] at h1;cases h1
    by_cases c2:b' =b
    ·exact c2.symm
    ·by_cases c3:b' =br
     ·subst c3;rw [o2] at h2;cases h2
     ·rw [o3 b' c2 c3] at h2;cases h2
   ·by_cases c2:b=br
    ·subst c2
     rw [o2] at h1;cases h1
     by_cases c3:b' =bo
     ·subst c3;rw [o1] at h2;cases h2
     ·by_cases c4:b' =b
      ·exact c4.symm
      ·rw [o3 b' c3 c4] at h2;cases h2
    ·rw [o3 b c1 c2] at h1;cases h1
  ·by_cases c1:b=bo
   ·subst c1
    show(if b=br then _ else _)=_
    rw [if_neg hne,if_pos rfl]
   ·by_cases c2:b=br
    ·subst c2;rw [o2] at h;cases h
    ·rw [o3 b c1 c2] at h;cases h
 have hB:Base E:=by
  intro x hx
  obtain⟨b1,b2,b3,b4⟩:=hbase x hx
  refine⟨by show _<W.heap.size;omega,o3 _ b2 b3,(hWo _ b1).trans b4,?_⟩
  show(if x.1=br then _ else _)=_
  rw [if_neg b3,if_neg b2,b4]
 have hrow:OrgRow E.w br cap xs:=by
  obtain⟨h1,cs,ty',lo,hi',h3,h4⟩:=hbr
  exact⟨h1,cs,ty',lo,hi',(hWo br hbrl).trans h3,h4⟩
 have hsb:sliceBound P e ie ke (some ⟨br,0,none⟩) xs.length cap= #[.slice (some ⟨br,0,none⟩) xs.length cap,typeHandle P e]:=by
  unfold sliceBound
  rw [hk9]
  rfl
 rw [hsb]
 have hA:ArgsAt E 0 [.val (.v true [.clo lf [gi 4],.swp f 0 (typeHandle P e) (gi 4)]),.val (.v false [.int .i64 0]),.val (.v false [.int .i64 xs.length]),.val (.v false [.int .i64 (Lib.bitLen xs.length)]),.gbox [.sl (.lnt 0) .org xs]]
  (#[.agg #[.func (.func lf) #[] #[.pointer (some ⟨bo,0,none⟩)],.func (.func f) #[] #[.slice (some ⟨br,0,none⟩) xs.length cap,typeHandle P e]],.int .i64 0,.int .i64 xs.length,.int .i64 (Lib.bitLen xs.length)]:Array Value).toList:=by
  refine⟨⟨_,rfl,⟨rfl,fun _ _=>trivial⟩,⟨⟨rfl,rfl⟩,fun ad l c he h=>rfl⟩,trivial⟩,⟨rfl,trivial⟩,⟨rfl,trivial⟩,⟨rfl,trivial⟩,⟨o1,_,ty,(hWo bo hbol).trans hbo,?_,trivial⟩,trivial⟩
  exact OrgRow.rd hrow o2 hw2 0 rfl
 have hdo:=hpdq E _ hE hB hA
 have e14:∀args w,(callFunc (ρ.f 14) args).run P w= .ok (.enter (ρ.f 14) args) w:=enters_of L.f14 (by kernel_rfl) rfl
 rcases hdo with ⟨v,w',h1,_⟩ |⟨_,h1⟩
 ·rw [e14] at h1;cases h1
 refine h1.mono fun en w' hen=> ?_
 cases en with
 |returned v=>
  obtain⟨E',rfl,hx⟩:=hen
  have hv:v= .tuple #[]:=by
   obtain⟨vs,rfl,hvs⟩:=(hx.res.vr rfl:VR E' zAI (.h 0) (.tup []) v)
   cases vs with
   |mk l=>cases l with
    |nil=>rfl
    |cons x l=>exact hvs.elim
  subst hv
  obtain⟨⟨b1,vals,ty',b2,b3⟩,_⟩:=(hx.outs:zBr E' (gi 4) bo [.sl (.lnt 0) .org ys]∧True)
  have hhdr:E'.hdr 0= .slice (some ⟨br,0,none⟩) xs.length cap:=by rw [hx.hdr]
  cases vals with
  |mk l=>
   match l,b3 with
   | [hv],b3=>
     have b4:RdP E'.w (okF E' (.k (2*gi 4+1)) 0 (.lnt 0)) (qF E' (.k (2*gi 4+1)) 0 (.lnt 0)) hv (.sl 2 (ys.map Ty.org.toD)):=b3.1
     have b5:hv=E'.hdr 0:=(RdP.top b4).2 rfl
     rw [hhdr] at b5
     subst b5
     refine⟨rfl,hx.os.trans hWos.1,hx.tape.trans hWos.2.1,hx.output.trans hWos.2.2,by have:=hx.size;show _≤E'.w.heap.size;have h3:W.heap.size≤E'.w.heap.size:=this;omega,fun b hb hb1 hb2=> ?_,⟨ty',b2⟩,?_⟩
     ·exact((hx.old b (by show b<W.heap.size;omega) (o3 b hb1 hb2)).1).trans (hWo b hb)
     ·have:ys≠ []:=by intro e;rw [e] at hl;simp at hl;omega
      rw [←hl] at b4
      exact OrgRow.of this b4
   | [],b3=>exact b3.elim
   |_::_::_,b3=>exact b3.2.elim
 |_=>exact hen.elim
end Go.Ab
end
section
namespace Go.Ab
open Go.Proofs Go.RowKit
structure OrgT (P:Program) (te ti tm tb ts:TypeId):Prop where
 key:P.underlying te=some (.struct #[{ name:= "Cell",type:=ti,offset:=0,embedded:=false,tag:= "",pkgPath:= "",byteOffset:=0 },{ name:= "Row",type:=ti,offset:=1,embedded:=false,tag:= "",pkgPath:= "",byteOffset:=8 }])
 held:P.stoodInHeld te=false
 int:P.underlying ti=some (.int .i64)
 map:P.underlying tm=some (.map te tb)
 zero:∀w,(zeroValue tb).run P w= .ok (.bool false) w
 slice:P.underlying ts=some (.slice te)
def orgV(o:Org):Value:= .agg #[.int .i64 o.cell,.int .i64 o.row]
section
variable {P:Program} {te ti tm tb ts:TypeId} (T:OrgT P te ti tm tb ts) {w:World}
include T
theorem xMA:P.plainKey ti=true:=by simp [Program.plainKey,T.int]
theorem xS6(o:Org):(part ti #[.int .i64 o.cell,.int .i64 o.row] 0).run P w= .ok (.int .i64 o.cell) w:=run_part_plain w (xMA T) rfl
theorem xS7(o:Org):(part ti #[.int .i64 o.cell,.int .i64 o.row] 1).run P w= .ok (.int .i64 o.row) w:=run_part_plain w (xMA T) rfl
theorem xIi(em:Bool)(n:Nat)(k:IntKind)(x:Int):(Instr.checkKey em (n+1) ti (.int k x)).run P w= .ok () w:=by
 unfold Instr.checkKey
 simp [run_underlying T.int]
theorem xG6(em:Bool)(n:Nat)(o:Org):(Instr.checkKey em (n+2) te (orgV o)).run P w= .ok () w:=by
 unfold Instr.checkKey orgV
 simp [run_underlying T.key,xS6 T,xS7 T,xIi T,Result.andThen]
theorem xHU(a b:Org):(Op.equal te (orgV a) (orgV b)).run P w= .ok (a==b) w:=by
 have hf:P.fieldsOf te= #[{ name:= "Cell",type:=ti,offset:=0,embedded:=false,tag:= "",pkgPath:= "",byteOffset:=0 },{ name:= "Row",type:=ti,offset:=1,embedded:=false,tag:= "",pkgPath:= "",byteOffset:=8 }]:=by unfold Program.fieldsOf;rw [T.key]
 show(Op.equalIn 10000 te (.agg _) (.agg _)).run P w=_
 rw [run_equalIn_agg w 9999 te _ _ (by rw [hf];exact T.key) T.held,hf]
 have e1:=run_equalIn_int (P:=P) w 9998 ti .i64 .i64 a.cell b.cell T.int
 have e2:=run_equalIn_int (P:=P) w 9998 ti .i64 .i64 a.row b.row T.int
 have h:(a==b)=((a.cell==b.cell)&&(a.row==b.row)):=by
  cases a;cases b
  rw [Bool.eq_iff_iff]
  simp
 rw [h]
 simp [Op.eqFields,xS6 T,xS7 T,e1,e2,Result.andThen]
 by_cases h1:a.cell=b.cell <;>by_cases h2:a.row=b.row <;>simp [h1,h2]
end
def SetMap(w:World)(b:Nat)(ks:List Org):Prop:=
 ∃es clock,w.heap[b]? =some (.map es clock)∧es.toList.map (·.key)=ks.map orgV∧∀e∈es.toList,e.val= .bool true
theorem SetMap.kept{w w' :World}{b:Nat}{ks:List Org}(h:SetMap w b ks)(e:w'.heap[b]? =w.heap[b]?):SetMap w' b ks:=by
 obtain⟨es,c,h1,h2⟩:=h
 exact⟨es,c,e.trans h1,h2⟩
section
variable {P:Program} {te ti tm tb ts:TypeId} (T:OrgT P te ti tm tb ts) {w:World}
include T
theorem xIR(o:Org):∀(es:List MapEntry) (ks:List Org) (i:Nat),es.map (·.key)=ks.map orgV→(∀e∈es,e.val= .bool true)→
 ∃r,(Instr.findAsking te (orgV o) es i).run P w= .ok r w∧(ks.contains o=true→∃j,r=some (j,.bool true))∧(ks.contains o=false→r=none):=by
 intro es
 induction es with
 |nil=>
  intro ks i h _
  have:ks=[]:=by simpa using h.symm
  subst this
  exact⟨none,by simp [Instr.findAsking],by simp,fun _=>rfl⟩
 |cons e es ih=>
  intro ks i h hv
  cases ks with
  |nil=>simp at h
  |cons k ks=>
   simp only [List.map_cons,List.cons.injEq] at h
   obtain⟨h1,h2⟩:=h
   obtain⟨r,hr,p1,p2⟩:=ih ks (i+1) h2 (fun x hx=>hv x (List.mem_cons_of_mem _ hx))
   by_cases hk:o=k
   ·subst hk
    refine⟨some (i,.bool true),?_,fun _=>⟨i,rfl⟩,by simp⟩
    unfold Instr.findAsking
    simp [h1,xHU T,Result.andThen,hv e List.mem_cons_self]
   ·have hb:(o==k)=false:=by simpa using hk
    refine⟨r,?_,fun hc=>p1 ?_,fun hc=>p2 ?_⟩
    ·unfold Instr.findAsking
     simp [h1,xHU T,Result.andThen,hb,hr]
    ·rw [List.contains_cons,hb,Bool.false_or] at hc;exact hc
    ·rw [List.contains_cons,hb,Bool.false_or] at hc;exact hc
theorem xIx(o:Org)(es:List MapEntry)(ks:List Org)(h:es.map (·.key)=ks.map orgV)(hv:∀e∈es,e.val= .bool true):
 ∃r,(Instr.findKey te (orgV o) es).run P w= .ok r w∧(ks.contains o=true→∃j,r=some (j,.bool true))∧(ks.contains o=false→r=none):=by
 cases es with
 |nil=>
  have:ks=[]:=by simpa using h.symm
  subst this
  exact⟨none,by simp [Instr.findKey,run_underlying T.key,Instr.findNow,Result.andThen],by simp,fun _=>rfl⟩
 |cons e es=>
  cases ks with
  |nil=>simp at h
  |cons k ks=>
   obtain⟨r,hr,p⟩:=xIR T (w:=w) o (e::es) (k::ks) 0 h hv
   refine⟨r,?_,p⟩
   have:Instr.findNow (.struct #[{ name:= "Cell",type:=ti,offset:=0,embedded:=false,tag:= "",pkgPath:= "",byteOffset:=0 },{ name:= "Row",type:=ti,offset:=1,embedded:=false,tag:= "",pkgPath:= "",byteOffset:=8 }]) (orgV o) (e::es) 0=none:=by
    simp [Instr.findNow,Instr.sameNow]
   simp [Instr.findKey,run_underlying T.key,this,Result.andThen,hr]
theorem xJb{b:Nat}{ks:List Org}(h:SetMap w b ks)(o:Org):(Instr.lookup tm (.map (some b)) (orgV o) false).run P w= .ok (.bool (ks.contains o)) w:=by
 obtain⟨es,c,h1,h2,h3⟩:=h
 obtain⟨r,hr,p1,p2⟩:=xIx T (w:=w) o es.toList ks h2 h3
 unfold Instr.lookup
 have hg:(getObj b).run P w= .ok (.map es c) w:=by simp [getObj,Sem.run,h1]
 have hck:(Instr.checkKey es.isEmpty 10000 te (orgV o)).run P w= .ok () w:=xG6 T es.isEmpty 9998 o
 cases hc:ks.contains o with
 |true=>
  obtain⟨j,rfl⟩:=p1 hc
  simp [run_underlying T.map,hg,hck,hr,Result.andThen]
 |false=>
  obtain rfl:=p2 hc
  simp [run_underlying T.map,hg,hck,hr,T.zero,Result.andThen]
theorem xJc{b:Nat}{ks:List Org}(h:SetMap w b ks)(o:Org)(hc:ks.contains o=false):
 ∃w',(Instr.mapUpdate tm (.map (some b)) (orgV o) (.bool true)).run P w= .ok () w' ∧SetMap w' b (ks++ [o])∧w.grownBy w' (some b)∧w'.heap.size=w.heap.size:=by
 obtain⟨es,c,h1,h2,h3⟩:=h
 obtain⟨r,hr,p1,p2⟩:=xIx T (w:=w) o es.toList ks h2 h3
 obtain rfl:=p2 hc
 have hb:b<w.heap.size:=(Array.getElem?_eq_some_iff.1 h1).1
 have hg:(getObj b).run P w= .ok (.map es c) w:=by simp [getObj,Sem.run,h1]
 have hck:(Instr.checkKey false 10000 te (orgV o)).run P w= .ok () w:=xG6 T false 9998 o
 have hs:∀ob,(setObj b ob).run P w= .ok () { w with heap:=w.heap.setIfInBounds b ob }:=by
  intro ob
  simp [setObj,Sem.run,h1]
 refine⟨{ w with heap:=w.heap.setIfInBounds b (.map (es.push { key:=orgV o,val:= .bool true,born:=c }) (c+1)) },?_,?_,⟨rfl,rfl,rfl,by simp,fun k hk hne=> ?_⟩,by simp⟩
 ·unfold Instr.mapUpdate
  simp [run_underlying T.map,hg,hck,hr,hs,Result.andThen]
 ·refine⟨_,_,by simp [hb];exact⟨rfl,rfl⟩,?_,?_⟩
  ·simp [h2]
  ·intro e he
   simp at he
   rcases he with he |rfl
   ·exact h3 e (by simpa using he)
   ·rfl
 ·have:b≠k:=fun e=>hne (by rw [e])
  simp [Array.getElem?_setIfInBounds,this]
end
section
variable {P:Program} {te ti tm tb ts:TypeId} (w:World) {ops:Array Oper} {rest:List Oper} {o:Oper} {a:Act} {Q:Exit→Act→World→Prop}
theorem xGV(T:OrgT P te ti tm tb ts)(hg:o.guard=none)(m x:Operand)(hop:o.op=Op.lookup tm m x false)(b:Nat)(ks:List Org)(hm:a.eval m= .map (some b))(hs:SetMap w b ks)(c:Org)(hx:a.eval x=orgV c)(bv:Bool)(hbv:ks.contains c=bv)
 (hK:wpList P ops Q rest (a.put o.dst (.bool bv)) w):wpList P ops Q (o::rest) a w:=by
 refine wpList_plain hg fun K' hK' => ?_
 have hrun:=xJb T hs c
 rw [hbv] at hrun
 unfold Oper.wp
 simp [execOp,hop,hm,hx,hrun,Result.andThen]
 exact hK' _ _ hK
theorem xH7(T:OrgT P te ti tm tb ts)(hg:o.guard=none)(m x v:Operand)(hop:o.op=Op.mapUpdate tm m x v)(b:Nat)(ks:List Org)(hm:a.eval m= .map (some b))(hs:SetMap w b ks)(c:Org)(hx:a.eval x=orgV c)(hv:a.eval v= .bool true)
 (hc:ks.contains c=false) (hK:∀w',SetMap w' b (ks++ [c])→w.grownBy w' (some b)→w'.heap.size=w.heap.size→wpList P ops Q rest (a.put o.dst undef) w'):wpList P ops Q (o::rest) a w:=by
 refine wpList_plain hg fun K' hK' => ?_
 obtain⟨w',hrun,r1,r2,r3⟩:=xJc T hs c hc
 unfold Oper.wp
 simp [execOp,hop,hm,hx,hv,hrun,Result.andThen]
 exact hK' _ _ (hK w' r1 r2 r3)
end
def orgs(os:List Org):List Value:=os.flatMap zAu
theorem xIn:∀os:List Org,(orgs os).length=os.length*2
 | []=>rfl
 |o::os=>by
  show(zAu o++orgs os).length=_
  rw [jA,xIn os]
  simp [zAu];omega
theorem xN3(a b:List Org):orgs (a++b)=orgs a++orgs b:=List.flatMap_append
theorem xIK:∀(os:List Org) (m:Nat) (hm:m<os.length) (k:Nat) (hk:k<2),(orgs os)[m*2+k]? =some ((zAu os[m])[k]'hk)
 | [],m,hm,_,_=>absurd hm (by simp)
 |o::os,0,hm,k,hk=>by
  show(zAu o++orgs os)[0*2+k]? =_
  rw [Nat.zero_mul,Nat.zero_add,List.getElem?_append_left hk]
  exact List.getElem?_eq_getElem hk
 |o::os,m+1,hm,k,hk=>by
  show(zAu o++orgs os)[(m+1)*2+k]? =_
  rw [List.getElem?_append_right (by show 2≤_;omega)]
  have e:(m+1)*2+k - (zAu o).length=m*2+k:=by show(m+1)*2+k - 2=_;omega
  rw [e]
  exact xIK os m (by simpa using hm) k hk
theorem xN4(os:List Org):∀u∈orgs os,u.oneCell' =true:=by
 intro u hu
 obtain⟨o,_,hu⟩:=List.mem_flatMap.1 hu
 simp only [zAu,List.mem_cons,List.not_mem_nil,or_false] at hu
 rcases hu with rfl |rfl <;>rfl
def RowIn(w:World)(v:Value)(os:List Org):Prop:=
 ∃p c,v= .slice p os.length c∧(os=[]∨∃a:Addr,p=some a∧a.block<w.heap.size∧∀j u,(orgs os)[j]? =some u→w.cell? (a.add j)=some u)
theorem xIM{P:Program}(w:World)(t ty e:TypeId)(i:TypeInfo)(ht:P.underlying t=some (.slice e))(hi:P.info? e=some i)(b:Option Addr)(n cap c:Nat)(h:n≤cap):
 (Builtin.append_ #[t,t] ty #[.slice b n cap,.slice none 0 c]).run P w= .ok (.slice b n cap) w:=by
 cases b with
 |none=>simp [Builtin.append_,run_underlying ht,sizeOf,typeInfo,hi,Builtin.lenOf,Builtin.firstCells,h,Result.andThen]
 |some ad=>simp [Builtin.append_,run_underlying ht,sizeOf,typeInfo,hi,Builtin.lenOf,Builtin.firstCells,storeCells,h,Result.andThen]
def OwnRow(w:World)(te g cap:Nat)(xs:List Org):Prop:=
 ∃cur,w.heap[g]? =some (.cells cur te (0,0))∧xs.length≤cap∧cap≤maxLen∧cur.size=cap*2∧cur.toList.take (xs.length*2)=orgs xs
theorem OwnRow.kept{w w' :World}{te g cap:Nat}{xs:List Org}(h:OwnRow w te g cap xs)(e:w'.heap[g]? =w.heap[g]?):OwnRow w' te g cap xs:=by
 obtain⟨cur,h1,h2⟩:=h
 exact⟨cur,e.trans h1,h2⟩
theorem OwnRow.lt{w:World}{te g cap:Nat}{xs:List Org}(h:OwnRow w te g cap xs):g<w.heap.size:=by
 obtain⟨cur,h1,h2⟩:=h
 exact(Array.getElem?_eq_some_iff.1 h1).1
theorem OwnRow.cell{w:World}{te g cap:Nat}{xs:List Org}(h:OwnRow w te g cap xs){j:Nat}{u:Value}(hj:(orgs xs)[j]? =some u):w.cell? ⟨g,j,none⟩=some u:=by
 obtain⟨cur,h1,h2,h3,h4,h5⟩:=h
 simp only [World.cell?,h1]
 rw [←h5,List.getElem?_take] at hj
 split at hj
 ·simpa using hj
 ·cases hj
theorem OwnRow.org{w:World}{te g cap:Nat}{xs:List Org}(h:OwnRow w te g cap xs):OrgRow w g cap xs:=by
 have hc:=fun j u=>h.cell (j:=j) (u:=u)
 obtain⟨cur,h1,h2,h3,h4,h5⟩:=h
 refine⟨h2,cur,te,0,0,h1,h4.symm,fun o a b=>by omega,fun m hm k hk=> ?_⟩
 have:=hc _ _ (xIK xs m hm k hk)
 simpa [World.cell?,h1] using this
theorem xKG{P:Program}{te ti tm tb ts:TypeId}(T:OrgT P te ti tm tb ts)(w:World)(ty:Nat)(i:TypeInfo)(hi:P.info? te=some i){z:Value}(hz:i.zero=some z)(hsize:i.size=2)(hby:i.bytes=16)(hzs:z.cells.size=2)
 {g cap:Nat} {xs:List Org} (hown:OwnRow w te g cap xs) {u:Value} {ys:List Org} (hin:RowIn w u ys) (hlen:xs.length+ys.length≤1000000000000):
 ∃g' cap' w',(Builtin.append_ #[ts,ts] ty #[.slice (some ⟨g,0,none⟩) xs.length cap,u]).run P w= .ok (.slice (some ⟨g',0,none⟩) (xs++ys).length cap') w' ∧OwnRow w' te g' cap' (xs++ys)∧w.grownBy w' (some g)∧(g' =g∨g' =w.heap.size):=by
 obtain⟨p,c,rfl,hp⟩:=hin
 have hown0:w.ownsRow 0 te 2 (.slice (some ⟨g,0,none⟩) xs.length cap) xs.length (orgs xs):=by
  obtain⟨cur,h1,h2,h3,h4,h5⟩:=hown
  exact⟨xIn xs,.inr ⟨g,cap,cur,rfl,Nat.zero_le _,h1,h2,h3,h4,h5⟩⟩
 have main:∀ad:Addr,(∀j u,(orgs ys)[j]? =some u→w.cell? (ad.add j)=some u)→∃g' cap' w',(Builtin.append_ #[ts,ts] ty #[.slice (some ⟨g,0,none⟩) xs.length cap,.slice (some ad) ys.length c]).run P w= .ok (.slice (some ⟨g',0,none⟩) (xs++ys).length cap') w' ∧
  OwnRow w' te g' cap' (xs++ys)∧w.grownBy w' (some g)∧(g' =g∨g' =w.heap.size):=by
  intro ad had
  obtain⟨v',w',hr,h2,h3,h4,h5⟩:=run_append_own_at (P:=P) w 0 ts ty te i z 2 16 T.slice hi hz hsize hby hzs (by decide) _ xs.length (orgs xs) hown0 ad ys.length c (orgs ys) (xIn ys) had (xN4 ys) (by unfold maxLen;omega) (by omega) (Nat.zero_le _)
  rcases h2.2 with ⟨rfl,_⟩ |⟨g',cap',cur,rfl,_,q1,q2,q3,q4,q5⟩
  ·have:=h4.1 rfl
   exact absurd this.1 (by simp)
  ·refine⟨g',cap',w',by rw [hr,List.length_append],⟨cur,q1,by rw [jA];exact q2,q3,q4,by rw [jA,xN3];exact q5⟩,h3,?_⟩
   simpa [Value.ownBlock] using h5
 rcases hp with hnil |⟨ad,rfl,_,had⟩
 ·subst hnil
  cases p with
  |some ad=>exact main ad (fun j u h=>by simp [orgs] at h)
  |none=>
   have hn:xs.length≤cap:=by obtain⟨cur,h1,h2,_⟩:=hown;exact h2
   refine⟨g,cap,w,?_,by rw [List.append_nil];exact hown,⟨rfl,rfl,rfl,Nat.le_refl _,fun _ _ _=>rfl⟩,.inl rfl⟩
   rw [List.append_nil]
   exact xIM w ts ty te i T.slice hi (some ⟨g,0,none⟩) xs.length cap c hn
 ·exact main ad had
theorem xFY{P:Program}{te ti tm tb ts:TypeId}(w:World){ops:Array Oper}{rest:List Oper}{o:Oper}{a:Act}{Q:Exit→Act→World→Prop}(T:OrgT P te ti tm tb ts)(hg:o.guard=none)(s x:Operand)
 (hop:o.op= .call { callee:= .builtin .append,args:= #[s,x],argTypes:= #[ts,ts] }) (i:TypeInfo) (hi:P.info? te=some i) {z:Value} (hz:i.zero=some z) (hsize:i.size=2) (hby:i.bytes=16) (hzs:z.cells.size=2)
 (g cap:Nat) (xs:List Org) (hs:a.eval s= .slice (some ⟨g,0,none⟩) xs.length cap) (hown:OwnRow w te g cap xs) (u:Value) (hx:a.eval x=u) (ys:List Org) (hin:RowIn w u ys) (hlen:xs.length+ys.length≤1000000000000)
 (hK:∀g' cap' w',OwnRow w' te g' cap' (xs++ys)→w.grownBy w' (some g)→(g' =g∨g' =w.heap.size)→wpList P ops Q rest (a.put o.dst (.slice (some ⟨g',0,none⟩) (xs++ys).length cap')) w'):
 wpList P ops Q (o::rest) a w:=by
 refine wpList_plain hg fun K' hK' => ?_
 obtain⟨g',cap',w',hr,h2,h3,h4⟩:=xKG (P:=P) T w o.type i hi hz hsize hby hzs hown hin hlen
 unfold Oper.wp execOp
 simp only [hop,resolve,invoke,builtin,Sem.run_bind,Sem.run_pure,Result.andThen_ok,List.map_toArray,List.map_cons,List.map_nil,hs,hx,hr]
 exact hK' _ _ (hK g' cap' w' h2 h3 h4)
theorem RowIn.kept{w w' :World}{v:Value}{os:List Org}(h:RowIn w v os)(hs:w.heap.size≤w'.heap.size)(ho:∀b,b<w.heap.size→w'.heap[b]? =w.heap[b]?):RowIn w' v os:=by
 obtain⟨p,c,rfl,h⟩:=h
 refine⟨p,c,rfl,h.imp id ?_⟩
 rintro ⟨a,rfl,ha,hc⟩
 refine⟨a,rfl,by omega,fun j u hj=> ?_⟩
 rw [←hc j u hj]
 have e:(a.add j).block=a.block:=by unfold Addr.add;split <;>rfl
 simp only [World.cell?,e,ho _ ha]
theorem xF9{w:World}{o:Obj}{b:Nat}(hb:b<w.heap.size):(w.alloc o).heap[b]? =w.heap[b]? :=Below.heap_alloc w o b hb
theorem xE5(w:World)(o:Obj):(w.alloc o).heap.size=w.heap.size+1:=Array.size_push _
theorem RowIn.below{w w' :World}{v:Value}{os:List Org}(h:RowIn w v os)(hb:Below w.heap.size w w'):RowIn w' v os:=h.kept hb.size hb.block
theorem set4(w:World)(o1 o2 o3:Obj)(te:TypeId):OwnRow ((((w.alloc o1).alloc o2).alloc o3).alloc (.cells #[] te)) te (w.heap.size+1+1+1) 0 []:=by
 refine⟨#[],?_,Nat.le_refl _,by decide,rfl,rfl⟩
 have e:w.heap.size+1+1+1=(((w.alloc o1).alloc o2).alloc o3).heap.size:=by rw [xE5,xE5,xE5]
 rw [e]
 show(Array.push _ _)[_]? =_
 rw [Array.getElem?_push,if_pos rfl]
theorem xNn(w:World)(o1 o2 o3 o4:Obj):Below w.heap.size w ((((w.alloc o1).alloc o2).alloc o3).alloc o4):=
 ((((Below.refl w.heap.size w).alloc (Nat.le_refl _) o1).alloc (by rw [xE5];omega) o2).alloc (by rw [xE5,xE5];omega) o3).alloc (by rw [xE5,xE5,xE5];omega) o4
theorem xMg(os:List Org)(k:Nat)(hk:k<os.length):ded (os.take (k+1))=zIz (ded (os.take k)) os[k]:=by
 unfold ded
 rw [List.take_succ_eq_append_getElem hk,List.foldl_append]
 rfl
theorem xPx(os:List Org):(ded os).length≤os.length:=by
 unfold ded
 have:∀(os acc:List Org),(os.foldl zIz acc).length≤acc.length+os.length:=by
  intro os
  induction os with
  |nil=>intro acc;simp
  |cons o os ih=>
   intro acc
   rw [List.foldl_cons]
   refine Nat.le_trans (ih _) ?_
   unfold zIz
   split <;>simp <;>omega
 simpa using this os []
structure URel (w:World) (te ts B S ga ca:Nat) (all:List Org) (k g cap:Nat) (wr:World):Prop where
 set:SetMap wr B (ded (all.take k))
 box:wr.heap[B+1+1]? =some (.cells #[.slice (some ⟨g,0,none⟩) (ded (all.take k)).length cap] ts (0,0))
 row:OwnRow wr te g cap (ded (all.take k))
 all:OwnRow wr te ga ca all
 below:Below B w wr
 size:S≤wr.heap.size
 hg:g=B+1∨S≤g
 hga:B+3≤ga∧ga<S
theorem URel.cell{w wr:World}{te ts B S ga ca k g cap:Nat}{all:List Org}(h:URel w te ts B S ga ca all k g cap wr):wr.cell? ⟨B+1+1,0,none⟩=some (.slice (some ⟨g,0,none⟩) (ded (all.take k)).length cap):=by
 simp [World.cell?,h.box]
theorem URel.old{w wr:World}{te ts B S ga ca k g cap:Nat}{all:List Org}(h:URel w te ts B S ga ca all k g cap wr)(hk:k<all.length)(hc:(ded (all.take k)).contains all[k]=true)(o:Obj):URel w te ts B S ga ca all (k+1) g cap (wr.alloc o):=by
 have hsz:=h.size
 have hal:∀b,b<wr.heap.size→(wr.alloc o).heap[b]? =wr.heap[b]? :=fun b hb=>xF9 (by omega)
 have e:ded (all.take (k+1))=ded (all.take k):=by rw [xMg _ _ hk];unfold zIz;rw [if_pos hc]
 have h1:=h.hga
 refine⟨by rw [e];exact h.set.kept (hal _ (by omega)),by rw [e,hal _ (by omega)];exact h.box,by rw [e];exact h.row.kept (hal _ h.row.lt),h.all.kept (hal _ h.all.lt),h.below.alloc (by omega) _,by rw [xE5];omega,h.hg,h1⟩
theorem xMd{w:World}{b:Nat}{v0 v:Value}{ty:TypeId}(h:w.heap[b]? =some (.cells #[v0] ty (0,0))):(w.setCell ⟨b,0,none⟩ v).heap[b]? =some (.cells #[v] ty (0,0))∧∀k,k≠b→(w.setCell ⟨b,0,none⟩ v).heap[k]? =w.heap[k]? :=by
 refine⟨?_,fun k hk=>Below.heap_setCell w _ v k hk⟩
 have hb:b<w.heap.size:=(Array.getElem?_eq_some_iff.1 h).1
 simp [World.setCell,Array.getElem?_modify,h]
theorem URel.new{w wr w2 w4:World}{te ts B S ga ca k g cap g' cap' :Nat}{all:List Org}(h:URel w te ts B S ga ca all k g cap wr)(hk:k<all.length)(hc:(ded (all.take k)).contains all[k]=false){o1 o3:Obj}
 (s2:SetMap w2 B (ded (all.take k)++ [all[k]])) (g2:(wr.alloc o1).grownBy w2 (some B)) (z2:w2.heap.size=(wr.alloc o1).heap.size)
 (r4:OwnRow w4 te g' cap' (ded (all.take k)++ [all[k]])) (g4:(w2.alloc o3).grownBy w4 (some g)) (hg' :g' =g∨g' =(w2.alloc o3).heap.size):
 URel w te ts B S ga ca all (k+1) g' cap' (w4.setCell ⟨B+1+1,0,none⟩ (.slice (some ⟨g',0,none⟩) (ded (all.take k)++ [all[k]]).length cap')):=by
 have hsz:=h.size
 have e:ded (all.take (k+1))=ded (all.take k)++ [all[k]]:=by rw [xMg _ _ hk];unfold zIz;rw [if_neg (by rw [hc];simp)]
 have h1:=h.hga
 have h2:=h.hg
 have hgl:=h.row.lt
 have zs1:(wr.alloc o1).heap.size=wr.heap.size+1:=xE5 _ _
 have zs3:(w2.alloc o3).heap.size=w2.heap.size+1:=xE5 _ _
 have z4:=g4.size
 have q1:∀b,b<wr.heap.size→b≠B→w2.heap[b]? =wr.heap[b]? :=fun b hb hne=>(g2.block b (by omega) (by simp;omega)).trans (xF9 (by omega))
 have q4:∀b,b<wr.heap.size→b≠B→b≠g→w4.heap[b]? =wr.heap[b]? :=fun b hb hne hne2=>((g4.block b (by omega) (by simp;omega)).trans (xF9 (by omega))).trans (q1 b hb hne)
 have hbx:w4.heap[B+1+1]? =some (.cells #[.slice (some ⟨g,0,none⟩) (ded (all.take k)).length cap] ts (0,0)):=(q4 _ (by omega) (by omega) (by omega)).trans h.box
 obtain⟨b1,b2⟩:=xMd (v:= .slice (some ⟨g',0,none⟩) (ded (all.take k)++ [all[k]]).length cap') hbx
 refine⟨?_,?_,?_,?_,?_,?_,?_,h1⟩
 ·rw [e]
  exact s2.kept ((b2 _ (by omega)).trans ((g4.block B (by omega) (by simp;omega)).trans (xF9 (by omega))))
 ·rw [e];exact b1
 ·rw [e];exact r4.kept (b2 _ (by omega))
 ·exact h.all.kept ((b2 _ (by omega)).trans (q4 _ h.all.lt (by omega) (by omega)))
 ·refine Below.setCell ?_ (by show B≤B+1+1;omega) _
  refine Below.grown ?_ g4 (by omega) (fun k hk=>by cases hk;omega)
  refine Below.alloc ?_ (by omega) _
  refine Below.grown ?_ g2 (by omega) (fun k hk=>by cases hk;omega)
  exact h.below.alloc (by omega) _
 ·have:(w4.setCell ⟨B+1+1,0,none⟩ (.slice (some ⟨g',0,none⟩) (ded (all.take k)++ [all[k]]).length cap')).heap.size=w4.heap.size:=by simp [World.setCell]
  omega
 ·omega
theorem URel.start{w w1 w2:World}{te ts g1 g2 c2:Nat}{xs ys:List Org}(r2:OwnRow w2 te g2 c2 ([]++xs++ys))
 (gr1:((((w.alloc (.map #[] 0)).alloc (.cells #[] te)).alloc (.cells #[.slice (some { block:=w.heap.size+1,off:=0 }) 0 0] ts)).alloc (.cells #[] te)).grownBy w1 (some (w.heap.size+1+1+1)))
 (e1:g1=w.heap.size+1+1+1∨g1=((((w.alloc (.map #[] 0)).alloc (.cells #[] te)).alloc (.cells #[.slice (some { block:=w.heap.size+1,off:=0 }) 0 0] ts)).alloc (.cells #[] te)).heap.size)
 (gr2:w1.grownBy w2 (some g1)) (e2:g2=g1∨g2=w1.heap.size):URel w te ts w.heap.size w2.heap.size g2 c2 (xs++ys) 0 (w.heap.size+1) 0 w2:=by
 generalize hA:((w.alloc (.map #[] 0)).alloc (.cells #[] te)).alloc (.cells #[.slice (some { block:=w.heap.size+1,off:=0 }) 0 0] ts)=A at gr1 e1
 have za:A.heap.size=w.heap.size+3:=by rw [←hA,xE5,xE5,xE5]
 have z4:(A.alloc (.cells #[] te)).heap.size=w.heap.size+4:=by rw [xE5,za]
 have s1:=gr1.size
 have s2:=gr2.size
 have a0:A.heap[w.heap.size]? =some (.map #[] 0):=by
  rw [←hA,xF9 (by rw [xE5,xE5];omega),xF9 (by rw [xE5];omega)]
  show(Array.push _ _)[_]? =_
  rw [Array.getElem?_push,if_pos rfl]
 have a1:A.heap[w.heap.size+1]? =some (.cells #[] te):=by
  rw [←hA,xF9 (by rw [xE5,xE5];omega)]
  show(Array.push _ _)[_]? =_
  rw [Array.getElem?_push,if_pos (xE5 _ _).symm]
 have a2:A.heap[w.heap.size+1+1]? =some (.cells #[.slice (some { block:=w.heap.size+1,off:=0 }) 0 0] ts):=by
  rw [←hA]
  show(Array.push _ _)[_]? =_
  rw [Array.getElem?_push,if_pos (by rw [xE5,xE5])]
 have keep:∀b,b<w.heap.size+3→w2.heap[b]? =A.heap[b]? :=fun b hb=>
  (gr2.block b (by omega) (by simp;omega)).trans ((gr1.block b (by omega) (by simp;omega)).trans (xF9 (by omega)))
 have hd:ded ((xs++ys).take 0)=[]:=by simp [ded]
 refine⟨?_,?_,?_,by simpa using r2,?_,Nat.le_refl _,.inl rfl,by omega,?_⟩
 ·rw [hd];exact⟨#[],0,(keep _ (by omega)).trans a0,rfl,by simp⟩
 ·rw [hd];exact(keep _ (by omega)).trans a2
 ·rw [hd];exact⟨#[],(keep _ (by omega)).trans a1,Nat.le_refl _,by decide,rfl,rfl⟩
 ·refine Below.grown (Below.grown ?_ gr1 (by omega) (fun k hk=>by cases hk;omega)) gr2 (by omega) (fun k hk=>by cases hk;omega)
  rw [←hA]
  exact xNn w _ _ _ _
 ·exact r2.lt
theorem URel.mid{w wr w3:World}{te ts B S ga ca k g cap:Nat}{all:List Org}(h:URel w te ts B S ga ca all k g cap wr){a b:Value}(g3:(wr.alloc (.cells #[a,b] te)).grownBy w3 (some B))(z3:w3.heap.size=(wr.alloc (.cells #[a,b] te)).heap.size):
 w3.cell? ⟨B+1+1,0,none⟩=some (.slice (some ⟨g,0,none⟩) (ded (all.take k)).length cap)∧w3.cell? ⟨wr.heap.size,0,none⟩=some a∧w3.cell? ⟨wr.heap.size,1,none⟩=some b∧∀o,OwnRow (w3.alloc o) te g cap (ded (all.take k)):=by
 have hsz:=h.size
 have h1:=h.hga
 have h2:=h.hg
 have hgl:=h.row.lt
 have zs1:=xE5 wr (.cells #[a,b] te)
 have q1:∀b,b<wr.heap.size→b≠B→w3.heap[b]? =wr.heap[b]? :=fun b hb hne=>(g3.block b (by omega) (by simp;omega)).trans (xF9 (by omega))
 have qn:w3.heap[wr.heap.size]? =some (.cells #[a,b] te):=by
  rw [g3.block _ (by omega) (by simp;omega)]
  show(Array.push _ _)[_]? =_
  rw [Array.getElem?_push,if_pos rfl]
 refine⟨?_,by simp [World.cell?,qn],by simp [World.cell?,qn],fun o=> ?_⟩
 ·simp only [World.cell?,q1 (B+1+1) (by omega) (by omega),h.box]
  rfl
 ·exact h.row.kept ((xF9 (by omega)).trans (q1 g hgl (by omega)))
theorem xNY(w:World)(te:Nat)(c:Org):RowIn (w.alloc (.cells #[.int .i64 c.cell,.int .i64 c.row] te)) (.slice (some ⟨w.heap.size,0,none⟩) 1 1) [c]:=by
 refine⟨_,1,rfl,.inr ⟨_,rfl,by rw [xE5];exact Nat.lt_succ_self _,fun j u hj=> ?_⟩⟩
 have hq:∀i,(w.alloc (.cells #[.int .i64 c.cell,.int .i64 c.row] te)).cell? ⟨w.heap.size,i,none⟩=(#[.int .i64 c.cell,.int .i64 c.row]:Array Value)[i]? :=fun i=>by
  have hq:(w.alloc (.cells #[.int .i64 c.cell,.int .i64 c.row] te)).heap[w.heap.size]? =some (.cells #[.int .i64 c.cell,.int .i64 c.row] te):=by
   show(Array.push _ _)[_]? =_
   rw [Array.getElem?_push,if_pos rfl]
  simp only [World.cell?,hq]
  rfl
 match j,hj with
 |0,hj=>
  simp [orgs,zAu] at hj
  subst hj
  simp only [Addr.add]
  exact hq _
 |1,hj=>
  simp [orgs,zAu] at hj
  subst hj
  simp only [Addr.add]
  exact hq _
 |j+2,hj=>simp [orgs,zAu] at hj
theorem URel.mid4{w wr w3 w4:World}{te ts B S ga ca k g cap:Nat}{all:List Org}(h:URel w te ts B S ga ca all k g cap wr){o1 o3:Obj}(g3:(wr.alloc o1).grownBy w3 (some B))(z3:w3.heap.size=(wr.alloc o1).heap.size)
 (g4:(w3.alloc o3).grownBy w4 (some g)):
 w4.cell? ⟨B+1+1,0,none⟩=some (.slice (some ⟨g,0,none⟩) (ded (all.take k)).length cap)∧w4.frozen? ⟨B+1+1,0,none⟩=false:=by
 have hsz:=h.size
 have h1:=h.hga
 have h2:=h.hg
 have hgl:=h.row.lt
 have zs1:=xE5 wr o1
 have zs3:=xE5 w3 o3
 have q:w4.heap[B+1+1]? =wr.heap[B+1+1]? :=
  (g4.block _ (by omega) (by simp;omega)).trans ((xF9 (by omega)).trans ((g3.block _ (by omega) (by simp;omega)).trans (xF9 (by omega))))
 constructor
 ·simp only [World.cell?,q,h.box]
  rfl
 ·simp [World.frozen?,q,h.box]
end Go.Ab
end
section
namespace Go.Ab
open Go.Lib Go.Extern Go.Proofs Go.Shelf Go.RowKit
variable [Inhabited Lb]
theorem xSx{P:Program}{ρ:Ren}(L:LaysGg.n6 P ρ)(t e:TypeId)(i ie:TypeInfo)(hi:P.info? t=some i)(hd:i.desc= .slice e)(hpk:P.packed t=false)(hie:P.info? e=some ie)(ke:Nat)
 (hke:∀w,(Extern.Rtype.kind e).run P w= .ok ke w) (hnp:ie.hasPointers=false) (hby:ie.bytes=16) (f1 f2 f lf:Nat) (hf1:P.funcs.findIdx? (·.name== "internal/reflectlite" ++ ".Swapper$1")=some f1)
 (hf2:P.funcs.findIdx? (·.name== "internal/reflectlite" ++ ".Swapper$2")=some f2) (hf:P.funcs.findIdx? (·.name== "internal/reflectlite" ++ ".Swapper$9")=some f)
 (hpdq:∀xs:List Org,2≤xs.length→xs.length≤1000000000000→AbsCalls P (ρ.f 14) [.val (.v true [.clo lf [gi 4],.swp f 0 (typeHandle P e) (gi 4)]),.val (.v false [.int .i64 0]),.val (.v false [.int .i64 xs.length]),.val (.v false [.int .i64 (Lib.bitLen xs.length)]),.gbox [.sl (.lnt 0) .org xs]]
   ⟨.tup [],[[.sl (.lnt 0) .org (xs.mergeSort fun x y=> !olt y x)]],[]⟩)
 {w:World} {bo br cap:Nat} {ty:TypeId} {xs:List Org} (hlen:xs.length≤1000000000000) (hbo:w.heap[bo]? =some (.cells #[.slice (some ⟨br,0,none⟩) xs.length cap] ty (0,0))) (hbr:OrgRow w br cap xs) (hne:bo≠br)
 (hbase:∀x∈zH7,x.1<w.heap.size∧x.1≠bo∧x.1≠br∧w.heap[x.1]? =some x.2):
 Calls P (ρ.f 6) #[.iface t (.slice (some ⟨br,0,none⟩) xs.length cap),.func (.func lf) #[] #[.pointer (some ⟨bo,0,none⟩)]] w fun en w' =>en= .returned (.tuple #[])∧Sorted w bo br cap xs (xs.mergeSort fun x y=> !olt y x) w' :=by
 by_cases h2:2≤xs.length
 ·exact xIP L t e i ie hi hd hpk hie ke hke hnp hby f lf hf (by simp) h2 (by omega) (hpdq xs h2 hlen) hbo hbr hne hbase
 ·have hn:xs.length≤1:=by omega
  have hms:(xs.mergeSort fun x y=> !olt y x)=xs:=by
   match xs,hn with
   | [],_=>simp
   | [a],_=>simp
  rw [hms]
  have hfi:∃f0,P.funcs.findIdx? (·.name== "internal/reflectlite" ++ ".Swapper$" ++toString (swapperK xs.length ie ke))=some f0:=by
   match h:xs.length,hn with
   |0,_=>exact⟨f1,by rw [show swapperK 0 ie ke=1 from rfl];exact hf1⟩
   |1,_=>exact⟨f2,by rw [show swapperK 1 ie ke=2 from rfl];exact hf2⟩
  obtain⟨f0,hf0⟩:=hfi
  refine(Any.sort_Slice_tiny L t e i ie hi hd hpk hie ke hke (some ⟨br,0,none⟩) xs.length cap hn f0 hf0 (.func lf) #[] #[.pointer (some ⟨bo,0,none⟩)] w).mono ?_
  rintro en w' ⟨rfl,os,rfl⟩
  have hbol:bo<w.heap.size:=(Array.getElem?_eq_some_iff.1 hbo).1
  have hbrl:br<w.heap.size:=by
   obtain⟨_,cs,ty,lo,hi,h,_⟩:=hbr
   exact(Array.getElem?_eq_some_iff.1 h).1
  refine⟨rfl,rfl,rfl,rfl,by rw [Sort.size_grow];omega,fun b hb _ _=>Sort.heap_grow_old _ _ hb,⟨ty,(Sort.heap_grow_old _ _ hbol).trans hbo⟩,?_⟩
  obtain⟨h1,cs,ty',lo,hi',h3,h4⟩:=hbr
  exact⟨h1,cs,ty',lo,hi',(Sort.heap_grow_old _ _ hbrl).trans h3,h4⟩
theorem xPE{w:World}{ok:List (Nat×Nat)→Nat→Nat→Prop}{q:List (Nat×Nat)→Value→Nat→Prop}{x:Org}{y:Value}:∀ {k:Nat} {hk:k<(Ty.org.toD x).length},RdP w ok q y ((Ty.org.toD x)[k])→y=(zAu x)[k]'hk
 |0,_,h=>by simp only [Ty.toD,List.getElem_cons_zero] at h;cases h;rfl
 |1,_,h=>by simp only [Ty.toD,List.getElem_cons_succ,List.getElem_cons_zero] at h;cases h;rfl
 |k+2,hk,_=>absurd hk (by show ¬k+2<2;omega)
theorem xMC{E:Env}{pl:Pl}{c:Nat}{v:Value}{os:List Org}(h:RdP E.w (okF E pl c .ro) (qF E pl c .ro) v (.sl 2 (os.map Ty.org.toD))):RowIn E.w v os:=by
 by_cases hx:os=[]
 ·subst hx
  obtain⟨ad,cap,rfl,_⟩:=RdP.shape h
  exact⟨ad,cap,rfl,.inl rfl⟩
 ·obtain⟨b,off,cap,rfl,hcap,hrl,hq,u,hcl,hk⟩:=RdP.cells h (by simpa using hx)
  refine⟨some ⟨b,off,none⟩,cap,by rw [List.length_map],.inr ⟨_,rfl,?_,fun j x hj=> ?_⟩⟩
  ·have hpos:0<(os.map Ty.org.toD).length:=by
    cases os with
    |nil=>exact absurd rfl hx
    |cons _ _=>simp
   have h0:=(hcl 0 0 hpos (by decide)).1
   by_cases hlt:b<E.w.heap.size
   ·exact hlt
   ·simp [World.cell?,Array.getElem?_eq_none (Nat.le_of_not_lt hlt)] at h0
  ·have hj2:j<(orgs os).length:=(List.getElem?_eq_some_iff.1 hj).1
   rw [xIn] at hj2
   have e:j=j / 2*2+j % 2:=by omega
   have hm:j / 2<os.length:=by omega
   have hk2:j % 2<2:=Nat.mod_lt _ (by decide)
   have h1:=xIK os (j / 2) hm (j % 2) hk2
   rw [←e,hj] at h1
   cases h1
   have g1:=(hcl (j / 2) (j % 2) (by simpa using hm) hk2).1
   have hr:((os.map Ty.org.toD)[j / 2]'(by simpa using hm))=Ty.org.toD os[j / 2]:=by rw [List.getElem_map]
   have g2:=hk (j / 2) (j % 2) (by simpa using hm) (by rw [hr];exact hk2)
   have ha:(⟨b,off,none⟩:Addr).add j=⟨b,off+(j / 2)*2+j % 2,none⟩:=by
    rw [show off+j / 2*2+j % 2=off+j by omega]
    unfold Addr.add
    split
    ·rename_i h0;rw [h0];rfl
    ·rfl
   rw [ha,g1]
   simp only [hr] at g2
   exact congrArg some (xPE g2)
theorem xNw{P:Program}{f:FuncId}(hf:∀args w,(callFunc f args).run P w= .ok (.enter f args) w)
 (hc:∀(xs ys:List Org) (u v:Value) (w:World),RowIn w u xs→RowIn w v ys→xs.length+ys.length≤1000000000000→(∀x∈zH7,x.1<w.heap.size∧w.heap[x.1]? =some x.2)→
   Calls P f #[u,v] w fun e w' =>∃br cap,e= .returned (.slice (some ⟨br,0,none⟩) (zJe xs ys).length cap)∧Below w.heap.size w w' ∧w.heap.size≤br∧OrgRow w' br cap (zJe xs ys))
 {xs ys zs:List Org} (h:zJr xs ys=some zs):AbsCalls P f [.val (.v false [.sl .ro .org xs]),.val (.v false [.sl .ro .org ys])] ⟨.v false [.sl .own .org zs],[],[]⟩:=by
 unfold zJr at h
 split at h
 case isFalse=>cases h
 rename_i hlen
 cases h
 refine AbsCalls.of_enter hf fun E args hE hB hA=> ?_
 match args,hA with
 |⟨[v1,v2]⟩,hA=>
  obtain⟨⟨hv1,_⟩,⟨hv2,_⟩,_⟩:=hA
  refine(hc xs ys v1 v2 E.w (xMC hv1) (xMC hv2) hlen fun x hx=>⟨(hB x hx).1,(hB x hx).2.2.1⟩).mono ?_
  rintro e w' ⟨br,cap,rfl,hb,hbr,hrow⟩
  generalize zJe xs ys=zs at hrow
  have hbl:br<w'.heap.size:=by
   obtain⟨_,cs,ty,lo,hi,h,_⟩:=hrow
   exact(Array.getElem?_eq_some_iff.1 h).1
  have h0:=hE.new br hbr
  let E' :Env:= { w:=w',hw:=fun b=>if b=br then zs.length*2 else E.hw b,ow:=fun b=>if b=br then some (.arr (.h 0) 0 []) else(E.ow b).bind (fun l=>if l= .arr (.h 0) 0 [] then none else some l),bx:=E.bx,hdr:=fun _=> .slice (some ⟨br,0,none⟩) zs.length cap }
  have hrd:=OrgRow.rd (E:=E') (pl:= .h 0) (c:=0) hrow (if_pos rfl) (if_pos rfl) 0 rfl
  refine⟨_,{ E' with hdr:=E.hdr },rfl,rfl,?_⟩
  refine { os:=hb.os,tape:=hb.tape,output:=hb.output,size:=hb.size,hdr:=rfl,old:=fun b hlt h1=> ?_,env:=⟨fun b hbb=> ?_,fun b b' l g1 g2=> ?_,fun b s h=> ?_⟩,res:= ?_,outs:=trivial,lents:=trivial,bx:=fun _ _=>rfl }
  ·have e:b≠br:=by omega
   exact⟨hb.block b hlt,by simp [E',e],by simp [E',e,h1]⟩
  ·have hbb:w'.heap.size≤b:=hbb
   have e:b≠br:=by omega
   have:=hE.new b (by have:=hb.size;omega)
   exact⟨by simp [E',e,this.1],by simp [E',e,this.2]⟩
  ·simp only [E'] at g1 g2
   split at g1 <;>split at g2
   ·rename_i e1 e2;rw [e1,e2]
   ·cases g1
    simp only [Option.bind_eq_some_iff] at g2
    obtain⟨l2,_,c2⟩:=g2
    split at c2
    ·cases c2
    ·rename_i hne;cases c2;exact absurd rfl hne
   ·cases g2
    simp only [Option.bind_eq_some_iff] at g1
    obtain⟨l2,_,c2⟩:=g1
    split at c2
    ·cases c2
    ·rename_i hne;cases c2;exact absurd rfl hne
   ·simp only [Option.bind_eq_some_iff] at g1 g2
    obtain⟨l1,a1,c1⟩:=g1
    obtain⟨l2,a2,c2⟩:=g2
    split at c1
    ·cases c1
    ·split at c2
     ·cases c2
     ·cases c1;cases c2;exact hE.inj _ _ _ a1 a2
  ·simp only [E'] at h ⊢
   split at h
   ·cases h
   ·rename_i hne
    rw [if_neg hne]
    rw [Option.bind_eq_some_iff] at h
    obtain⟨l,a1,c1⟩:=h
    split at c1
    ·cases c1
    ·cases c1;exact hE.boxhw b s a1
  ·refine ResAt.of ?_ rfl
   refine⟨?_,trivial⟩
   exact RdP.mono hrd (fun p b o ho=>⟨rfl,ho⟩) (fun p v sz ht=>ht.1)
 |⟨[]⟩,hA=>exact hA.elim
 |⟨[_]⟩,hA=>exact hA.2.elim
 |⟨_::_::_::_⟩,hA=>exact hA.2.2.elim
end Go.Ab
end
section
namespace Go.Ab
end Go.Ab
namespace Go.Ab
variable [Inhabited Lb]
open Go.Proofs Go.Shelf Go.RowKit Go.Lib
variable {P:Program} {ρ:Ren}
theorem xNu(s:List UInt8)(c:UInt8):Lib.index s [c]=Lib.indexByte s c:=by
 induction s with
 |nil=>rfl
 |cons b l ih=>
  unfold Lib.index Lib.indexByte
  rw [ih]
  by_cases h:b=c
  ·subst h;simp [List.isPrefixOf]
  ·have h2:¬c=b:=fun e=>h e.symm
   simp [List.isPrefixOf,h,h2]
set_option maxHeartbeats 1000000 in
theorem xNZ(L:Lays.n146 P ρ)(hi9:(P.info? (ρ.t 9)).map (fun i=>(i.zero,i.size,i.bytes))=some (some (.string ByteArray.empty),1,16))(s:ByteArray)(c:UInt8)(w:World)(hs:s.size<4294967281):
 Calls P (ρ.f 146) #[.string s,.string ⟨#[c]⟩] w fun e w' =>
  e= .returned (.slice (some ⟨w.heap.size,0,none⟩) (Lib.countB s ⟨#[c]⟩+1) (Lib.countB s ⟨#[c]⟩+1))∧w' =w.alloc (.cells ((Lib.splitB ⟨#[c]⟩ 0 (Lib.countB s ⟨#[c]⟩) s).map Value.string).toArray (ρ.t 9)):=by
 have h1:1≤(⟨#[c]⟩:ByteArray).size:=Nat.le_refl 1
 have hle:=Lib.countB_le ⟨#[c]⟩ h1 s.size s (Nat.le_refl _)
 have hlen:=Lib.splitB_all ⟨#[c]⟩ h1 0 _ s rfl
 have hI:∀(x:ByteArray) (cc:Array Value),x.size≤s.size→Calls P (ρ.f 143) #[.string x,.string ⟨#[c]⟩] (w.alloc (.cells cc (ρ.t 9))) fun e w' =>e= .returned (.int .i64 (Lib.indexB x ⟨#[c]⟩))∧w' =w.alloc (.cells cc (ρ.t 9)):=by
  intro x cc _
  refine(Any.strings_Index_one { L with } x c _).mono fun e w' ⟨he,hw⟩=>⟨?_,hw⟩
  rw [he]
  show _=Ending.returned (Value.int .i64 (Lib.index x.data.toList [c]))
  rw [xNu]
 have hC:Calls P (ρ.f 138) #[.string s,.string ⟨#[c]⟩] w fun e w' =>e= .returned (.int .i64 (Lib.countB s ⟨#[c]⟩))∧w' =w:=by
  refine(Any.strings_Count_one { L with } s c w).mono fun e w' ⟨he,hw⟩=>⟨?_,hw⟩
  rw [he]
  show _=Ending.returned (Value.int .i64 ((Lib.count s.data.toList [c]:Nat):Int))
  rw [Lib.count_one]
  rfl
 have cc:=Any.strings_genSplit_core { L with } hi9 s ⟨#[c]⟩ 0 (-1) (Lib.countB s ⟨#[c]⟩+1) w hs h1 (Nat.zero_le _) hI hC (by decide) (by decide) (by rw [if_pos (by decide)];omega)
 rw [Nat.add_sub_cancel,hlen] at cc
 have e2:Lib.cellsOf (Lib.splitB ⟨#[c]⟩ 0 (Lib.countB s ⟨#[c]⟩) s) (Lib.countB s ⟨#[c]⟩+1)=((Lib.splitB ⟨#[c]⟩ 0 (Lib.countB s ⟨#[c]⟩) s).map Value.string).toArray:=by rw [←hlen];exact Lib.cellsOf_full _
 rw [e2] at cc
 have t3:=L.t3;have t9:=L.t9;have t31:=L.t31
 have a3:=L.a3;have a9:=L.a9;have a31:=L.a31
 have z3:=L.z3;have v3:=L.v3;have z9:=L.z9;have v9:=L.v9;have z31:=L.z31;have v31:=L.v31
 have e221:∀args w,(callFunc (ρ.f 221) args).run P w= .ok (.enter (ρ.f 221) args) w:=enters_of L.f221 (by kernel_rfl) rfl
 go_enter L.f146,Body.n146_ntmps ρ
 go_wp2_with (go_at_fn (ρ.f 221);refine cc.mono ?_;rintro e w' ⟨rfl,hw⟩;rw [hw])
 go_ret
 exact⟨rfl,rfl⟩
theorem xLR(L:Lays.n146 P ρ):∀args w,(callFunc (ρ.f 146) args).run P w= .ok (.enter (ρ.f 146) args) w:=enters_of L.f146 (by kernel_rfl) rfl
end Go.Ab
end
section
namespace Go.Proofs
open Go.Shelf
def Tryz.lays125_ren:Go.Shelf.Ren:=⟨fun |125=>37 |128=>63 |129=>64 |n=>n,fun |46=>76 |3=>3 |51=>94 |53=>96 |4=>4 |5=>5 |9=>9 |n=>n,fun |n=>n⟩
theorem Tryz.lays125:Go.Proofs.Lays.n125 Tryz.prog Tryz.lays125_ren:= {
 mixed:=by kernel_rfl
 f125:=Tryz.func37.trans (congrArg some (by kernel_rfl))
 f128:=Tryz.func63.trans (congrArg some (by kernel_rfl))
 f129:=Tryz.func64.trans (congrArg some (by kernel_rfl))
 t3:=Tryz.underlying3
 a3:=Tryz.isAgg3
 z3:=Tryz.sizeOf3
 v3:=Tryz.zeroValue3
 t4:=Tryz.underlying4
 a4:=Tryz.isAgg4
 z4:=Tryz.sizeOf4
 v4:=Tryz.zeroValue4
 t5:=Tryz.underlying5
 a5:=Tryz.isAgg5
 z5:=Tryz.sizeOf5
 v5:=Tryz.zeroValue5
 t9:=Tryz.underlying9
 a9:=Tryz.isAgg9
 z9:=Tryz.sizeOf9
 v9:=Tryz.zeroValue9
 t46:=Tryz.underlying76
 a46:=Tryz.isAgg76
 z46:=Tryz.sizeOf76
 v46:=Tryz.zeroValue76
 t51:=Tryz.underlying94
 a51:=Tryz.isAgg94
 z51:=Tryz.sizeOf94
 v51:=Tryz.zeroValue94
 t53:=Tryz.underlying96
 a53:=Tryz.isAgg96
 z53:=Tryz.sizeOf96
 v53:=Tryz.zeroValue96 }
def Tryz.laysGg6_ren:Go.Shelf.Ren:=⟨fun |6=>19 |10=>34 |11=>35 |12=>36 |13=>37 |14=>38 |24=>63 |25=>64 |26=>65 |27=>66 |28=>67 |29=>68 |30=>69 |31=>70 |32=>71 |33=>72 |34=>80 |35=>81 |36=>82 |37=>83 |38=>84 |39=>89 |n=>n,fun |20=>20 |26=>51 |35=>70 |0=>0 |37=>72 |3=>3 |41=>76 |44=>79 |49=>94 |51=>96 |4=>4 |54=>99 |53=>98 |58=>103 |5=>5 |9=>9 |60=>108 |64=>112 |66=>117 |67=>118 |17=>17 |32=>67 |33=>68 |82=>143 |12=>12 |75=>136 |76=>137 |77=>138 |78=>139 |79=>140 |80=>141 |n=>n,fun |n=>n⟩
theorem Tryz.laysGg6:Go.Proofs.LaysGg.n6 Tryz.prog Tryz.laysGg6_ren:= {
 mixed:=by kernel_rfl
 f6:=Tryz.func19.trans (congrArg some (by kernel_rfl))
 f10:=Tryz.func34.trans (congrArg some (by kernel_rfl))
 f11:=Tryz.func35.trans (congrArg some (by kernel_rfl))
 f12:=Tryz.func36.trans (congrArg some (by kernel_rfl))
 f13:=Tryz.func37.trans (congrArg some (by kernel_rfl))
 f14:=Tryz.func38.trans (congrArg some (by kernel_rfl))
 f24:=Tryz.func63.trans (congrArg some (by kernel_rfl))
 f25:=Tryz.func64.trans (congrArg some (by kernel_rfl))
 f26:=Tryz.func65.trans (congrArg some (by kernel_rfl))
 f27:=Tryz.func66.trans (congrArg some (by kernel_rfl))
 f28:=Tryz.func67.trans (congrArg some (by kernel_rfl))
 f29:=Tryz.func68.trans (congrArg some (by kernel_rfl))
 f30:=Tryz.func69.trans (congrArg some (by kernel_rfl))
 f31:=Tryz.func70.trans (congrArg some (by kernel_rfl))
 f32:=Tryz.func71.trans (congrArg some (by kernel_rfl))
 f33:=Tryz.func72.trans (congrArg some (by kernel_rfl))
 f34:=Tryz.func80.trans (congrArg some (by kernel_rfl))
 f35:=Tryz.func81.trans (congrArg some (by kernel_rfl))
 f36:=Tryz.func82.trans (congrArg some (by kernel_rfl))
 f37:=Tryz.func83.trans (congrArg some (by kernel_rfl))
 f38:=Tryz.func84.trans (congrArg some (by kernel_rfl))
 f39:=Tryz.func89.trans (congrArg some (by kernel_rfl))
 t0:=Tryz.underlying0
 a0:=Tryz.isAgg0
 z0:=Tryz.sizeOf0
 v0:=Tryz.zeroValue0
 i0:=by kernel_rfl
 t3:=Tryz.underlying3
 a3:=Tryz.isAgg3
 z3:=Tryz.sizeOf3
 v3:=Tryz.zeroValue3
 i3:=by kernel_rfl
 t4:=Tryz.underlying4
 a4:=Tryz.isAgg4
 z4:=Tryz.sizeOf4
 v4:=Tryz.zeroValue4
 i4:=by kernel_rfl
 t5:=Tryz.underlying5
 a5:=Tryz.isAgg5
 z5:=Tryz.sizeOf5
 v5:=Tryz.zeroValue5
 i5:=by kernel_rfl
 t9:=Tryz.underlying9
 a9:=Tryz.isAgg9
 z9:=Tryz.sizeOf9
 v9:=Tryz.zeroValue9
 i9:=by kernel_rfl
 t12:=Tryz.underlying12
 a12:=Tryz.isAgg12
 z12:=Tryz.sizeOf12
 v12:=Tryz.zeroValue12
 i12:=by kernel_rfl
 t17:=Tryz.underlying17
 a17:=Tryz.isAgg17
 z17:=Tryz.sizeOf17
 v17:=Tryz.zeroValue17
 i17:=by kernel_rfl
 t20:=Tryz.underlying20
 a20:=Tryz.isAgg20
 z20:=Tryz.sizeOf20
 v20:=Tryz.zeroValue20
 i20:=by kernel_rfl
 t26:=Tryz.underlying51
 a26:=Tryz.isAgg51
 z26:=Tryz.sizeOf51
 v26:=Tryz.zeroValue51
 i26:=by kernel_rfl
 t32:=Tryz.underlying67
 a32:=Tryz.isAgg67
 z32:=Tryz.sizeOf67
 v32:=Tryz.zeroValue67
 i32:=by kernel_rfl
 t33:=Tryz.underlying68
 a33:=Tryz.isAgg68
 z33:=Tryz.sizeOf68
 v33:=Tryz.zeroValue68
 i33:=by kernel_rfl
 t35:=Tryz.underlying70
 a35:=Tryz.isAgg70
 z35:=Tryz.sizeOf70
 v35:=Tryz.zeroValue70
 i35:=by kernel_rfl
 t37:=Tryz.underlying72
 a37:=Tryz.isAgg72
 z37:=Tryz.sizeOf72
 v37:=Tryz.zeroValue72
 i37:=by kernel_rfl
 t41:=Tryz.underlying76
 a41:=Tryz.isAgg76
 z41:=Tryz.sizeOf76
 v41:=Tryz.zeroValue76
 i41:=by kernel_rfl
 t44:=Tryz.underlying79
 a44:=Tryz.isAgg79
 z44:=Tryz.sizeOf79
 v44:=Tryz.zeroValue79
 i44:=by kernel_rfl
 t49:=Tryz.underlying94
 a49:=Tryz.isAgg94
 z49:=Tryz.sizeOf94
 v49:=Tryz.zeroValue94
 i49:=by kernel_rfl
 t51:=Tryz.underlying96
 a51:=Tryz.isAgg96
 z51:=Tryz.sizeOf96
 v51:=Tryz.zeroValue96
 i51:=by kernel_rfl
 t53:=Tryz.underlying98
 a53:=Tryz.isAgg98
 z53:=Tryz.sizeOf98
 v53:=Tryz.zeroValue98
 i53:=by kernel_rfl
 t54:=Tryz.underlying99
 a54:=Tryz.isAgg99
 z54:=Tryz.sizeOf99
 v54:=Tryz.zeroValue99
 i54:=by kernel_rfl
 t58:=Tryz.underlying103
 a58:=Tryz.isAgg103
 z58:=Tryz.sizeOf103
 v58:=Tryz.zeroValue103
 i58:=by kernel_rfl
 t60:=Tryz.underlying108
 a60:=Tryz.isAgg108
 z60:=Tryz.sizeOf108
 v60:=Tryz.zeroValue108
 i60:=by kernel_rfl
 t64:=Tryz.underlying112
 a64:=Tryz.isAgg112
 z64:=Tryz.sizeOf112
 v64:=Tryz.zeroValue112
 i64:=by kernel_rfl
 t66:=Tryz.underlying117
 a66:=Tryz.isAgg117
 z66:=Tryz.sizeOf117
 v66:=Tryz.zeroValue117
 i66:=by kernel_rfl
 t67:=Tryz.underlying118
 a67:=Tryz.isAgg118
 z67:=Tryz.sizeOf118
 v67:=Tryz.zeroValue118
 i67:=by kernel_rfl
 t75:=Tryz.underlying136
 a75:=Tryz.isAgg136
 z75:=Tryz.sizeOf136
 v75:=Tryz.zeroValue136
 i75:=by kernel_rfl
 t76:=Tryz.underlying137
 a76:=Tryz.isAgg137
 z76:=Tryz.sizeOf137
 v76:=Tryz.zeroValue137
 i76:=by kernel_rfl
 t77:=Tryz.underlying138
 a77:=Tryz.isAgg138
 z77:=Tryz.sizeOf138
 v77:=Tryz.zeroValue138
 i77:=by kernel_rfl
 t78:=Tryz.underlying139
 a78:=Tryz.isAgg139
 z78:=Tryz.sizeOf139
 v78:=Tryz.zeroValue139
 i78:=by kernel_rfl
 t79:=Tryz.underlying140
 a79:=Tryz.isAgg140
 z79:=Tryz.sizeOf140
 v79:=Tryz.zeroValue140
 i79:=by kernel_rfl
 t80:=Tryz.underlying141
 a80:=Tryz.isAgg141
 z80:=Tryz.sizeOf141
 v80:=Tryz.zeroValue141
 i80:=by kernel_rfl
 t82:=Tryz.underlying143
 a82:=Tryz.isAgg143
 z82:=Tryz.sizeOf143
 v82:=Tryz.zeroValue143
 i82:=by kernel_rfl }
def Tryz.lays146_ren:Go.Shelf.Ren:=⟨fun |146=>49 |221=>76 |268=>85 |138=>86 |143=>87 |195=>90 |197=>91 |218=>92 |219=>93 |260=>94 |217=>95 |225=>96 |224=>97 |267=>98 |266=>99 |314=>100 |n=>n,fun |9=>9 |31=>30 |3=>3 |4=>4 |0=>0 |105=>120 |21=>21 |5=>5 |46=>76 |119=>124 |139=>127 |138=>126 |146=>128 |51=>94 |n=>n,fun |1=>0 |3=>1 |4=>2 |n=>n⟩
theorem Tryz.lays146:Go.Proofs.Lays.n146 Tryz.prog Tryz.lays146_ren:= {
 mixed:=by kernel_rfl
 f138:=Tryz.func86.trans (congrArg some (by kernel_rfl))
 f143:=Tryz.func87.trans (congrArg some (by kernel_rfl))
 f146:=Tryz.func49.trans (congrArg some (by kernel_rfl))
 f195:=Tryz.func90.trans (congrArg some (by kernel_rfl))
 f197:=Tryz.func91.trans (congrArg some (by kernel_rfl))
 f217:=Tryz.func95.trans (congrArg some (by kernel_rfl))
 f218:=Tryz.func92.trans (congrArg some (by kernel_rfl))
 f219:=Tryz.func93.trans (congrArg some (by kernel_rfl))
 f221:=Tryz.func76.trans (congrArg some (by kernel_rfl))
 f224:=Tryz.func97.trans (congrArg some (by kernel_rfl))
 f225:=Tryz.func96.trans (congrArg some (by kernel_rfl))
 f260:=Tryz.func94.trans (congrArg some (by kernel_rfl))
 f266:=Tryz.func99.trans (congrArg some (by kernel_rfl))
 f267:=Tryz.func98.trans (congrArg some (by kernel_rfl))
 f268:=Tryz.func85.trans (congrArg some (by kernel_rfl))
 f314:=Tryz.func100.trans (congrArg some (by kernel_rfl))
 t0:=Tryz.underlying0
 a0:=Tryz.isAgg0
 z0:=Tryz.sizeOf0
 v0:=Tryz.zeroValue0
 t3:=Tryz.underlying3
 a3:=Tryz.isAgg3
 z3:=Tryz.sizeOf3
 v3:=Tryz.zeroValue3
 t4:=Tryz.underlying4
 a4:=Tryz.isAgg4
 z4:=Tryz.sizeOf4
 v4:=Tryz.zeroValue4
 t5:=Tryz.underlying5
 a5:=Tryz.isAgg5
 z5:=Tryz.sizeOf5
 v5:=Tryz.zeroValue5
 t9:=Tryz.underlying9
 a9:=Tryz.isAgg9
 z9:=Tryz.sizeOf9
 v9:=Tryz.zeroValue9
 t21:=Tryz.underlying21
 a21:=Tryz.isAgg21
 z21:=Tryz.sizeOf21
 v21:=Tryz.zeroValue21
 t31:=Tryz.underlying30
 a31:=Tryz.isAgg30
 z31:=Tryz.sizeOf30
 v31:=Tryz.zeroValue30
 t46:=Tryz.underlying76
 a46:=Tryz.isAgg76
 z46:=Tryz.sizeOf76
 v46:=Tryz.zeroValue76
 t51:=Tryz.underlying94
 a51:=Tryz.isAgg94
 z51:=Tryz.sizeOf94
 v51:=Tryz.zeroValue94
 t105:=Tryz.underlying120
 a105:=Tryz.isAgg120
 z105:=Tryz.sizeOf120
 v105:=Tryz.zeroValue120
 t119:=Tryz.underlying124
 a119:=Tryz.isAgg124
 z119:=Tryz.sizeOf124
 t138:=Tryz.underlying126
 a138:=Tryz.isAgg126
 z138:=Tryz.sizeOf126
 v138:=Tryz.zeroValue126
 t139:=Tryz.underlying127
 a139:=Tryz.isAgg127
 z139:=Tryz.sizeOf127
 v139:=Tryz.zeroValue127
 t146:=Tryz.underlying128
 a146:=Tryz.isAgg128
 z146:=Tryz.sizeOf128
 v146:=Tryz.zeroValue128
 g1:=by kernel_rfl
 g3:=by kernel_rfl
 g4:=by kernel_rfl }
end Go.Proofs
end
section
open Go.Proofs
namespace Go.Ab.T
variable [Inhabited Lb]
abbrev AbC(f:FuncId)(a:List Arg)(r:CallO):Prop:=AbsCalls Tryz.prog f a r
abbrev W(x:Int):Int:=IntKind.i64.wrap x
abbrev Ln{α:Type}(l:List α):Nat:=List.length l
abbrev tN(x:Int):Nat:=Int.toNat x
abbrev gD{α:Type}(l:List α)(i:Nat)(d:α):α:=List.getD l i d
abbrev iY(b:Bool):Prop:=b=true
abbrev iN(b:Bool):Prop:=b=false
abbrev dc(p:Prop) [Decidable p]:Bool:=decide p
abbrev vd:Val:=Ty.val.dflt
abbrev rd:Rowd:=Ty.row.dflt
end Go.Ab.T
end
section
open Go.Proofs
namespace Go.Ab.T
set_option maxRecDepth 100000
variable [Inhabited Lb]
def tt:TT:=[(3,{ zero:=some [.int .i64 0],ik:=some .i64 }),
 (4,{ zero:=some [.bool false],isBool:=true }),
 (5,{ zero:=some [.int .u8 0],ik:=some .u8 }),
 (9,{ zero:=some [.str []],isStr:=true }),
 (22,{ zero:=some [.sl .own .byte []],elem:=some (5,.byte) }),
 (24,{ zero:=some [.sl .own .org []],elem:=some (41,.org) }),
 (29,{ zero:=some [.sl .own .val []],elem:=some (33,.val) }),
 (30,{ zero:=some [.sl .own .str []],elem:=some (9,.str) }),
 (31,{ zero:=some [.sl .own .row []],elem:=some (58,.row) }),
 (33,{ sz:=7,agg:=true,zero:=some [.int .i64 0,.int .i64 0,.int .i64 0,.str [],.sl .own .val [],.sl .own .str [],.sl .own .row []],offs:=[0,1,2,3,4,5,6],fsz:=[1,1,1,1,1,1,1] }),
 (41,{ sz:=2,agg:=true,zero:=some [.int .i64 0,.int .i64 0],offs:=[0,1],fsz:=[1,1],same:=true }),
 (43,{ zero:=some [.sl .own .int []],elem:=some (3,.int) }),
 (51,{ zero:=some [.val .nilFunc],isFn:=true }),
 (58,{ sz:=2,agg:=true,zero:=some [.sl .own .int [],.sl .own .org []],offs:=[0,1],fsz:=[1,1] }),
 (65,{ sz:=3,agg:=true,zero:=some [.sl .own .byte [],.int .i64 0,.int .i64 0],offs:=[0,1,2],fsz:=[1,1,1] }),
 (72,{ zero:=some [.val .nilFunc],isFn:=true }),
 (76,{ zero:=some [.int .u64 0],ik:=some .u64 }),
 (79,{ sz:=2,agg:=true,zero:=some [.val .nilFunc,.val .nilFunc],offs:=[0,1],fsz:=[1,1] }),
 (96,{ zero:=some [.int .u64 0],ik:=some .u64 }),
 (98,{ zero:=some [.int .i64 0],ik:=some .i64 }),
 (108,{ zero:=some [.int .u64 0],ik:=some .u64 })]
theorem ttok:TTok Tryz.prog tt:=zJl (by kernel_rfl)
theorem mix:Tryz.prog.follows .mixedOrders=true:=by kernel_rfl
def F:Bool:=false
def cl(r:CallO):CallO:=⟨r.res,r.outs,[.clo 0 []]⟩
def Y:Bool:=true
noncomputable def rE (I:Info) (ag:List Arg) (bs:List Bool) (cs:List CallO):Option Res:=run tt (AbsCalls Tryz.prog) I 3000 false [.code I.body] ⟨zA9 0 ag,bs,cs,[]⟩
noncomputable def rS (k:Nat) (I:Info) (σ:St) (bs:List Bool) (cs:List CallO):Option Res:=run tt (AbsCalls Tryz.prog) I 3000 true (stkAt k I.body) ⟨σ,bs,cs,[]⟩
noncomputable def dn (r:CallO) (ob:List Prop):Option Res:=some (.done r ob)
noncomputable def st (k:Nat) (I:Info) (σ:St) (ob:List Prop):Option Res:=some (.stop (stkAt k I.body) σ ob)
def RE(fn:Func)(I:Info)(ag:List Arg)(r:CallO):Prop:=Reach Tryz.prog fn I [.code I.body] (zA9 0 ag) r
def RS(fn:Func)(I:Info)(k:Nat)(σ:St)(r:CallO):Prop:=Reach Tryz.prog fn I (stkAt k I.body) σ r
section
variable {ρ:Type} {f:FuncId} {fn:Func} {I:Info} {ag:List Arg} {bs:List Bool} {cs:List CallO} {k j:Nat} {σ σ' :St} {ob:List Prop} {ro:ρ→CallO} {x r:ρ} {q:CallO}
theorem dE(e:some x=some r)(hf:FnOk Tryz.prog f fn I)(h:rE I ag bs cs=dn (ro x) ob)(o:∀p∈ob,p):RE fn I ag (ro r):=by
 cases e;exact Reach.done ttok mix hf h o
theorem dS(e:some x=some r)(hf:FnOk Tryz.prog f fn I)(h:rS k I σ bs cs=dn (ro x) ob)(o:∀p∈ob,p):RS fn I k σ (ro r):=by
 cases e;exact Reach.done ttok mix hf h o
theorem tE(hf:FnOk Tryz.prog f fn I)(h:rE I ag bs cs=st k I σ ob)(o:∀p∈ob,p)(t:RS fn I k σ q):RE fn I ag q:=Reach.stop ttok mix hf h o t
theorem tS(hf:FnOk Tryz.prog f fn I)(h:rS j I σ' bs cs=st k I σ ob)(o:∀p∈ob,p)(t:RS fn I k σ q):RS fn I j σ' q:=Reach.stop ttok mix hf h o t
end
theorem oc{p:Prop}{l:List Prop}(h:p)(t:∀q∈l,q):∀q∈p::l,q:=zJk h t
theorem on:∀q∈([]:List Prop),q:=zJo
theorem oc2{p0 p1:Prop}{l:List Prop}(h0:p0)(h1:p1)(t:∀q∈l,q):∀q∈p0::p1::l,q:=oc h0 (oc h1 t)
theorem oc3{p0 p1 p2:Prop}{l:List Prop}(h0:p0)(h1:p1)(h2:p2)(t:∀q∈l,q):∀q∈p0::p1::p2::l,q:=oc h0 (oc2 h1 h2 t)
theorem oc4{p0 p1 p2 p3:Prop}{l:List Prop}(h0:p0)(h1:p1)(h2:p2)(h3:p3)(t:∀q∈l,q):∀q∈p0::p1::p2::p3::l,q:=oc h0 (oc3 h1 h2 h3 t)
theorem oc5{p0 p1 p2 p3 p4:Prop}{l:List Prop}(h0:p0)(h1:p1)(h2:p2)(h3:p3)(h4:p4)(t:∀q∈l,q):∀q∈p0::p1::p2::p3::p4::l,q:=oc h0 (oc4 h1 h2 h3 h4 t)
theorem oc6{p0 p1 p2 p3 p4 p5:Prop}{l:List Prop}(h0:p0)(h1:p1)(h2:p2)(h3:p3)(h4:p4)(h5:p5)(t:∀q∈l,q):∀q∈p0::p1::p2::p3::p4::p5::l,q:=oc h0 (oc5 h1 h2 h3 h4 h5 t)
theorem oc7{p0 p1 p2 p3 p4 p5 p6:Prop}{l:List Prop}(h0:p0)(h1:p1)(h2:p2)(h3:p3)(h4:p4)(h5:p5)(h6:p6)(t:∀q∈l,q):∀q∈p0::p1::p2::p3::p4::p5::p6::l,q:=oc h0 (oc6 h1 h2 h3 h4 h5 h6 t)
theorem oc8{p0 p1 p2 p3 p4 p5 p6 p7:Prop}{l:List Prop}(h0:p0)(h1:p1)(h2:p2)(h3:p3)(h4:p4)(h5:p5)(h6:p6)(h7:p7)(t:∀q∈l,q):∀q∈p0::p1::p2::p3::p4::p5::p6::p7::l,q:=oc h0 (oc7 h1 h2 h3 h4 h5 h6 h7 t)
theorem oc9{p0 p1 p2 p3 p4 p5 p6 p7 p8:Prop}{l:List Prop}(h0:p0)(h1:p1)(h2:p2)(h3:p3)(h4:p4)(h5:p5)(h6:p6)(h7:p7)(h8:p8)(t:∀q∈l,q):∀q∈p0::p1::p2::p3::p4::p5::p6::p7::p8::l,q:=oc h0 (oc8 h1 h2 h3 h4 h5 h6 h7 h8 t)
theorem oc10{p0 p1 p2 p3 p4 p5 p6 p7 p8 p9:Prop}{l:List Prop}(h0:p0)(h1:p1)(h2:p2)(h3:p3)(h4:p4)(h5:p5)(h6:p6)(h7:p7)(h8:p8)(h9:p9)(t:∀q∈l,q):∀q∈p0::p1::p2::p3::p4::p5::p6::p7::p8::p9::l,q:=oc h0 (oc9 h1 h2 h3 h4 h5 h6 h7 h8 h9 t)
theorem oc11{p0 p1 p2 p3 p4 p5 p6 p7 p8 p9 p10:Prop}{l:List Prop}(h0:p0)(h1:p1)(h2:p2)(h3:p3)(h4:p4)(h5:p5)(h6:p6)(h7:p7)(h8:p8)(h9:p9)(h10:p10)(t:∀q∈l,q):∀q∈p0::p1::p2::p3::p4::p5::p6::p7::p8::p9::p10::l,q:=oc h0 (oc10 h1 h2 h3 h4 h5 h6 h7 h8 h9 h10 t)
theorem oc12{p0 p1 p2 p3 p4 p5 p6 p7 p8 p9 p10 p11:Prop}{l:List Prop}(h0:p0)(h1:p1)(h2:p2)(h3:p3)(h4:p4)(h5:p5)(h6:p6)(h7:p7)(h8:p8)(h9:p9)(h10:p10)(h11:p11)(t:∀q∈l,q):∀q∈p0::p1::p2::p3::p4::p5::p6::p7::p8::p9::p10::p11::l,q:=oc h0 (oc11 h1 h2 h3 h4 h5 h6 h7 h8 h9 h10 h11 t)
theorem cE{α:Type}{C:Prop}{b:Bool}{x y:Option α}{r:α}(h:cond b x y=some r)(f:b=true→x=some r→C)(g:b=false→y=some r→C):C:=(zJi h).elim (fun h=>f h.1 h.2) fun h=>g h.1 h.2
theorem bE{α β:Type}{C:Prop}{o:Option α}{f:α→Option β}{r:β}(h:Option.bind o f=some r)(g:∀a,o=some a→f a=some r→C):C:=(zJg h).elim fun a h=>g a h.1 h.2
theorem iE{α:Type}{C p:Prop} [Decidable p]{x:Option α}{r:α}(h:(if p then x else none)=some r)(g:p→x=some r→C):C:=(zJm h).elim g
theorem nE{α:Type}{C:Prop}{r:α}(h:none=some r):C:=nomatch h
noncomputable def I82:Info:= { body:=(Tryz.f82.body).getD .skip,nt:=33,results:=[.tmp 2],keep:=[0,4,1],live:=[],modes:=[],ext:=[0] }
theorem fk82:FnOk Tryz.prog 82 Tryz.f82 I82:=by refine⟨Tryz.func82,?_,?_,?_,?_⟩<;>kernel_rfl
abbrev xNx(v0:Int):=xorI .u64 (xorI .u64 (xorI .u64 v0 (IntKind.u64.wrap (v0*2 ^ (tN 13)))) (Int.fdiv (xorI .u64 v0 (IntKind.u64.wrap (v0*2 ^ (tN 13)))) ((2:Int) ^ (tN 7)))) (IntKind.u64.wrap ((xorI .u64 (xorI .u64 v0 (IntKind.u64.wrap (v0*2 ^ (tN 13)))) (Int.fdiv (xorI .u64 v0 (IntKind.u64.wrap (v0*2 ^ (tN 13)))) ((2:Int) ^ (tN 7))))*2 ^ (tN 17)))
def xSi(a0):rE I82 (xC2 a0) [] []=dn (xCd ((xNx a0),(xNx a0))) [(0:Int)≤13∧(13:Int)<64,(0:Int)≤7∧(7:Int)<64,(0:Int)≤17∧(17:Int)<64]:=by kernel_rfl
theorem xUp{N:Nat}:∀a0 r,xDF N a0=some r→RE Tryz.f82 I82 (xC2 a0) (xCd r):=fun a0 r h=>dE h fk82 (xSi a0) (oc3 (by decide) (by decide) (by decide) on)
theorem xFI{N:Nat}{a0:Int}{r:Int×Int}(h:xDF N  a0=some r):AbC 82 (xC2 a0) (xCd r):=
 AbsCalls.of_reach fk82 rfl rfl rfl (jL rfl) (xUp a0 r h)
theorem xIh{N:Nat}{a0 r:Int}(h:xGZ N a0=some r):AbC 37 (xG2 a0) (xFS r):=
 zIJ (xJA Tryz.lays125) (Any.bits_Len Tryz.lays125) h
noncomputable def I81:Info:= { body:=(Tryz.f81.body).getD .skip,nt:=10,results:=[.tmp 2],keep:=[0,4,6],live:=[],modes:=[(2,[(0,.take,false)])] }
theorem fk81:FnOk Tryz.prog 81 Tryz.f81 I81:=by refine⟨Tryz.func81,?_,?_,?_,?_⟩<;>kernel_rfl
def xSh(a0 r1):rE I81 (xDw a0) [] [xFS r1]=dn (xCO (IntKind.u64.wrap (1*2 ^ (tN (IntKind.u64.wrap (r1)))))) [AbC 37 (xG2 (IntKind.u64.wrap (a0))) (xFS r1),(0:Int)≤(IntKind.u64.wrap (r1))∧(IntKind.u64.wrap (r1))<64]:=by kernel_rfl
theorem xUo{N:Nat}:∀a0 r,xDu N a0=some r→RE Tryz.f81 I81 (xDw a0) (xCO r):=fun a0 r h=>bE h fun r1 h0 h=>iE h fun h1 h=>dE h fk81 (xSh a0 r1) (oc2 (xIh h0) h1 on)
theorem xHb{N:Nat}{a0:Int}{r:Int}(h:xDu N  a0=some r):AbC 81 (xDw a0) (xCO r):=
 AbsCalls.of_reach fk81 rfl rfl rfl (jL rfl) (xUo a0 r h)
theorem xAh{N:Nat}{a0 a1:Int}{a2 r:List Org}(h:xAf N a0 a1 a2=some r):AbC 62 (xAg a0 a1 a2) (xAa r):=
 zJj (run_callFunc_extern Tryz.func62 (by kernel_rfl) (by kernel_rfl) (by kernel_rfl) (by kernel_rfl)) 41 _ (Option.some_get (by kernel_rfl:(Tryz.prog.info? 41).isSome=true)).symm (by kernel_rfl) Tryz.isAgg41 h
noncomputable def xGr:Info:= { body:=(Tryz.f69.body).getD .skip,nt:=23,results:=[],keep:=[0,2,4,6,12,14,26,2000006,7,2000007],live:=[(3,[6,12,14,2000006,7,2000007])],modes:=[],ext:=[1000003] }
theorem xHL:FnOk Tryz.prog 69 Tryz.f69 xGr:=by refine⟨Tryz.func69,?_,?_,?_,?_⟩<;>kernel_rfl
def xGJ(x6 x7:Int)(g003:List Org):St:=[(6,.v false [.ptr 3 0]),(12,.v false [.int .i64 x6]),(14,.v false [.int .i64 x7]),(7,.v true [.clo 20 [1000003],.swp 62 0 (.pointer (some ⟨3,41,none⟩)) 1000003]),(2000007,.v true [.sl (.lnt 0) .org g003])]
abbrev xDm(v0 v1:Int):Prop:=iY (dc (v0<v1))
def xLu(x6 x7 g003 r1):rS 3 xGr (xGJ x6 x7 g003) [Y] [xAa r1]=st 3 xGr (xGJ (W (x6+1)) (W (x7 - 1)) r1) [xDm x6 x7,AbC 62 (xAg x6 x7 g003) (xAa r1),2≤Ln g003,Ln r1=Ln g003]:=by kernel_rfl
abbrev xE1(v0 v1:Int):Prop:=iN (dc (v0<v1))
def xLv(x6 x7 g003):rS 3 xGr (xGJ x6 x7 g003) [F] []=dn (xA4 g003) [xE1 x6 x7]:=by kernel_rfl
def xLw(a0 a1 a2):rE xGr (xBH a0 a1 a2) [] []=st 3 xGr (xGJ a0 (W (a1 - 1)) a2) []:=by kernel_rfl
theorem xM0{N:Nat}:∀n x6 x7 g003 r,xA3 N n x6 x7 g003=some r→RS Tryz.f69 xGr 3 (xGJ x6 x7 g003) (xA4 r):=by
 intro n
 induction n with
 |zero=>exact fun _ _ _ _ h=>nE h
 |succ n ih=>
  exact fun x6 x7 g003 r h=>cE h (fun h0 h=>bE h fun r1 h1 h=>iE h fun h2 h=>iE h fun h3 h=>tS xHL (xLu x6 x7 g003 r1) (oc4 h0 (xAh h1) h2 h3 on) (ih _ _ _ _ h)) fun h0 h=>dS h xHL (xLv x6 x7 g003) (oc h0 on)
theorem xM1{N:Nat}:∀a0 a1 a2 r,xBu N a0 a1 a2=some r→RE Tryz.f69 xGr (xBH a0 a1 a2) (xA4 r):=fun a0 a1 a2 r h=>tE xHL (xLw a0 a1 a2) on (xM0 _ _ _ _ _ h)
theorem xEh{N:Nat}{a0:Int}{a1:Int}{a2:List Org}{r:(List Org)}(h:xBu N  a0 a1 a2=some r):AbC 69 (xBH a0 a1 a2) (xA4 r):=
 AbsCalls.of_reach xHL rfl rfl rfl (jL rfl) (xM1 a0 a1 a2 r h)
noncomputable def xE2:Info:= { body:=(Tryz.f67.body).getD .skip,nt:=54,results:=[],keep:=[0,2,4,6,12,14,16,18,20,30,66,86,2000006,7,15,2000007],live:=[(6,[2,6,12,14,16,18,2000006,7,15,2000007])],modes:=[(8,[(1,.take,false)])],ext:=[1000003] }
theorem xGL:FnOk Tryz.prog 67 Tryz.f67 xE2:=by refine⟨Tryz.func67,?_,?_,?_,?_⟩<;>kernel_rfl
def xFl(x1 x6 x8 x9 b7:Int)(g003:List Org):St:=[(2,.v false [.int .i64 x1]),(6,.v false [.ptr 3 0]),(12,.v false [.int .i64 x6]),(14,.v false [.ptr 7 0]),(16,.v false [.int .u64 x8]),(18,.v false [.int .i64 x9]),(7,.v true [.clo 20 [1000003],.swp 62 0 (.pointer (some ⟨3,41,none⟩)) 1000003]),(15,.v true [.int .u64 b7]),(2000007,.v true [.sl (.lnt 0) .org g003])]
abbrev xLT(v0 v1 v2:Int):=dc (v0≤(W ((W (v1+(W ((W (Int.tdiv v2 4))*2))))+1)))
abbrev xJD(v0:Int×Int)(v1:Int):=W ((andI .u64 v0.1 (IntKind.u64.wrap (v1 - 1))))
def xLg(x1 x6 x8 x9 b7 g003 r1 r2):rS 6 xE2 (xFl x1 x6 x8 x9 b7 g003) [Y,Y] [xCd r1,xAa r2]=st 6 xE2 (xFl x1 x6 x8 (W (x9+1)) r1.2 r2) [4≠(0:Int),iY (xLT x9 x1 x6),AbC 82 (xC2 b7) (xCd r1),iY (dc (((xJD r1 x8):Int)≥x6)),AbC 62 (xAg x9 (W (x1+(W ((xJD r1 x8) - x6)))) g003) (xAa r2),2≤Ln g003,Ln r2=Ln g003]:=by kernel_rfl
def xLh(x1 x6 x8 x9 b7 g003 r1 r2):rS 6 xE2 (xFl x1 x6 x8 x9 b7 g003) [Y,F] [xCd r1,xAa r2]=st 6 xE2 (xFl x1 x6 x8 (W (x9+1)) r1.2 r2) [4≠(0:Int),iY (xLT x9 x1 x6),AbC 82 (xC2 b7) (xCd r1),iN (dc (((xJD r1 x8):Int)≥x6)),AbC 62 (xAg x9 (W (x1+(xJD r1 x8))) g003) (xAa r2),2≤Ln g003,Ln r2=Ln g003]:=by kernel_rfl
def xLi(x1 x6 x8 x9 b7 g003):rS 6 xE2 (xFl x1 x6 x8 x9 b7 g003) [F] []=dn (xAO g003) [4≠(0:Int),iN (xLT x9 x1 x6)]:=by kernel_rfl
abbrev xMa(v0 v1:Int):Prop:=iY (dc ((W (v0 - v1))≥8))
abbrev xH2(v0 v1:Int):=W (v0+(W ((W (Int.tdiv (W (v1 - v0)) 4))*2)))
def xLj(a0 a1 a2 r1):rE xE2 (xBj a0 a1 a2) [Y] [xCO r1]=st 6 xE2 (xFl a0 (W (a1 - a0)) r1 (W ((xH2 a0 a1) - 1)) (IntKind.u64.wrap ((W (a1 - a0)))) a2) [xMa a1 a0,AbC 81 (xDw (W (a1 - a0))) (xCO r1),4≠(0:Int)]:=by kernel_rfl
def xLk(a0 a1 a2):rE xE2 (xBj a0 a1 a2) [F] []=dn (xAO a2) [iN (dc ((W (a1 - a0))≥8))]:=by kernel_rfl
theorem xMX{N:Nat}:∀n x1 x6 x8 x9 b7 g003 r,xAN N n x1 x6 x8 x9 b7 g003=some r→RS Tryz.f67 xE2 6 (xFl x1 x6 x8 x9 b7 g003) (xAO r):=by
 intro n
 induction n with
 |zero=>exact fun _ _ _ _ _ _ _ h=>nE h
 |succ n ih=>
  exact fun x1 x6 x8 x9 b7 g003 r h=>cE h (fun h1 h=>bE h fun r1 h2 h=>cE h (fun h3 h=>bE h fun r2 h4 h=>iE h fun h5 h=>iE h fun h6 h=>tS xGL (xLg x1 x6 x8 x9 b7 g003 r1 r2) (oc7 (by decide) h1 (xFI h2) h3 (xAh h4) h5 h6 on) (ih _ _ _ _ _ _ _ h)) fun h3 h=>bE h fun r2 h4 h=>iE h fun h5 h=>iE h fun h6 h=>tS xGL (xLh x1 x6 x8 x9 b7 g003 r1 r2) (oc7 (by decide) h1 (xFI h2) h3 (xAh h4) h5 h6 on) (ih _ _ _ _ _ _ _ h)) fun h1 h=>dS h xGL (xLi x1 x6 x8 x9 b7 g003) (oc2 (by decide) h1 on)
theorem xMY{N:Nat}:∀a0 a1 a2 r,xBq N a0 a1 a2=some r→RE Tryz.f67 xE2 (xBj a0 a1 a2) (xAO r):=fun a0 a1 a2 r h=>cE h (fun h0 h=>bE h fun r1 h1 h=>tE xGL (xLj a0 a1 a2 r1) (oc3 h0 (xHb h1) (by decide) on) (xMX _ _ _ _ _ _ _ _ h)) fun h0 h=>dE h xGL (xLk a0 a1 a2) (oc h0 on)
theorem xD7{N:Nat}{a0:Int}{a1:Int}{a2:List Org}{r:(List Org)}(h:xBq N  a0 a1 a2=some r):AbC 67 (xBj a0 a1 a2) (xAO r):=
 AbsCalls.of_reach xGL rfl rfl rfl (jL rfl) (xMY a0 a1 a2 r h)
noncomputable def I21:Info:= { body:=(Tryz.f21.body).getD .skip,nt:=24,results:=[.tmp 4],keep:=[0,2,4,6,8,5,7],live:=[],modes:=[(1,[(5,.take,false),(11,.take,false)])] }
theorem fk21:FnOk Tryz.prog 21 Tryz.f21 I21:=by refine⟨Tryz.func21,?_,?_,?_,?_⟩<;>kernel_rfl
def xQg(a0 a1):rE I21 (xCa a0 a1) [Y] []=dn (xBx true) [iY (dc (a0.cell<a1.cell))]:=by kernel_rfl
def xQh(a0 a1):rE I21 (xCa a0 a1) [F,Y] []=dn (xBx (dc (a0.row<a1.row))) [iN (dc (a0.cell<a1.cell)),iY (a0.cell==a1.cell)]:=by kernel_rfl
def xQi(a0 a1):rE I21 (xCa a0 a1) [F,F] []=dn (xBx false) [iN (dc (a0.cell<a1.cell)),iN (a0.cell==a1.cell)]:=by kernel_rfl
theorem xTx{N:Nat}:∀a0 a1 r,xDl N a0 a1=some r→RE Tryz.f21 I21 (xCa a0 a1) (xBx r):=fun a0 a1 r h=>cE h (fun h0 h=>dE h fk21 (xQg a0 a1) (oc h0 on)) fun h0 h=>cE h (fun h1 h=>dE h fk21 (xQh a0 a1) (oc2 h0 h1 on)) fun h1 h=>dE h fk21 (xQi a0 a1) (oc2 h0 h1 on)
theorem xEF{N:Nat}{a0:Org}{a1:Org}{r:Bool}(h:xDl N  a0 a1=some r):AbC 21 (xCa a0 a1) (xBx r):=
 AbsCalls.of_reach fk21 rfl rfl rfl (jL rfl) (xTx a0 a1 r h)
noncomputable def xJy:Info:= { body:=(Tryz.f20.body).getD .skip,nt:=15,results:=[.tmp 5],keep:=[0,2,4,10,5],live:=[],modes:=[],ext:=[2] }
theorem xKS:FnOk Tryz.prog 20 Tryz.f20 xJy:=by refine⟨Tryz.func20,?_,?_,?_,?_⟩<;>kernel_rfl
abbrev xFU(v0:Int)(v1:List Org):Prop:=(0:Int)≤v0∧v0<(Ln v1)
abbrev xEG(v0:List Org)(v1:Int):=gD v0 (tN v1) Ty.org.dflt
def xLz(a0 a1 a2 r1):rE xJy (xAU a0 a1 a2) [] [xBx r1]=dn (xAc (r1,a2)) [xFU a0 a2,xFU a1 a2,AbC 21 (xCa (xEG a2 a0) (xEG a2 a1)) (xBx r1)]:=by kernel_rfl
theorem xM5{N:Nat}:∀a0 a1 a2 r,xAA N a0 a1 a2=some r→RE Tryz.f20 xJy (xAU a0 a1 a2) (xAc r):=fun a0 a1 a2 r h=>iE h fun h0 h=>iE h fun h1 h=>bE h fun r1 h2 h=>dE h xKS (xLz a0 a1 a2 r1) (oc3 h0 h1 (xEF h2) on)
theorem xAi{N:Nat}{a0:Int}{a1:Int}{a2:List Org}{r:Bool×(List Org)}(h:xAA N  a0 a1 a2=some r):AbC 20 (xAU a0 a1 a2) (xAc r):=
 AbsCalls.of_reach xKS rfl rfl rfl (jL rfl) (xM5 a0 a1 a2 r h)
noncomputable def xBm:Info:= { body:=(Tryz.f72.body).getD .skip,nt:=107,results:=[.tmp 8,.tmp 9],keep:=[0,2,4,6,8,16,18,20,22,60,86,96,146,172,182,2000008,9,2000009],live:=[(3,[2,8,20,22,2000008,9,2000009]),(5,[2,8,20,22,2000008,9,2000009]),(13,[2,8,20,22,2000008,9,2000009]),(15,[2,8,20,22,2000008,9,2000009])],modes:=[(3,[(3,.take,false)]),(5,[(3,.take,false)]),(13,[(3,.take,false)]),(15,[(3,.take,false)])],ext:=[1000004] }
theorem xCl:FnOk Tryz.prog 72 Tryz.f72 xBm:=by refine⟨Tryz.func72,?_,?_,?_,?_⟩<;>kernel_rfl
def xFj(x1 x10 x11:Int)(g004:List Org):St:=[(2,.v false [.int .i64 x1]),(8,.v false [.ptr 4 0]),(20,.v false [.int .i64 x10]),(22,.v false [.int .i64 x11]),(9,.v true [.clo 20 [1000004],.swp 62 0 (.pointer (some ⟨3,41,none⟩)) 1000004]),(2000009,.v true [.sl (.lnt 0) .org g004])]
def xDV(x1 x10 x11:Int)(g004:List Org):St:=[(2,.v false [.int .i64 x1]),(8,.v false [.ptr 4 0]),(20,.v false [.int .i64 x10]),(22,.v false [.int .i64 x11]),(9,.v true [.clo 20 [1000004],.swp 62 0 (.pointer (some ⟨3,41,none⟩)) 1000004]),(2000009,.v true [.sl (.lnt 0) .org g004])]
def xDe(x1 x10 x11:Int)(g004:List Org):St:=[(2,.v false [.int .i64 x1]),(8,.v false [.ptr 4 0]),(20,.v false [.int .i64 x10]),(22,.v false [.int .i64 x11]),(9,.v true [.clo 20 [1000004],.swp 62 0 (.pointer (some ⟨3,41,none⟩)) 1000004]),(2000009,.v true [.sl (.lnt 0) .org g004])]
def xDC(x1 x10 x11:Int)(g004:List Org):St:=[(2,.v false [.int .i64 x1]),(8,.v false [.ptr 4 0]),(20,.v false [.int .i64 x10]),(22,.v false [.int .i64 x11]),(9,.v true [.clo 20 [1000004],.swp 62 0 (.pointer (some ⟨3,41,none⟩)) 1000004]),(2000009,.v true [.sl (.lnt 0) .org g004])]
abbrev xHs(v0 v1:Int):Prop:=iY (dc (v0≤v1))
abbrev xHl(v0 v1:Int)(v2:List Org)(v3:Bool×(List Org)):Prop:=AbC 20 (xAU v0 v1 v2) (xAc v3)
def xIX(x1 x10 x11 g004 r1):rS 15 xBm (xDC x1 x10 x11 g004) [Y,Y] [xAc r1]=st 15 xBm (xDC x1 x10 (W (x11 - 1)) r1.2) [xHs x10 x11,xHl x11 x1 g004 r1,iY (!r1.1)]:=by kernel_rfl
def xIY(x1 x10 x11 g004 r1 r2):rS 15 xBm (xDC x1 x10 x11 g004) [Y,F,Y] [xAc r1,xAa r2]=dn (xAn (x11,false,r2)) [xHs x10 x11,xHl x11 x1 g004 r1,iN (!r1.1),iY (dc (x10>x11)),AbC 62 (xAg x11 x1 r1.2) (xAa r2),2≤Ln r1.2,Ln r2=Ln r1.2]:=by kernel_rfl
def xIZ(x1 x10 x11 g004 r1 r2):rS 15 xBm (xDC x1 x10 x11 g004) [Y,F,F] [xAc r1,xAa r2]=st 13 xBm (xDe x1 (W (x10+1)) (W (x11 - 1)) r2) [xHs x10 x11,xHl x11 x1 g004 r1,iN (!r1.1),iN (dc (x10>x11)),AbC 62 (xAg x10 x11 r1.2) (xAa r2),2≤Ln r1.2,Ln r2=Ln r1.2]:=by kernel_rfl
abbrev xIT(v0 v1:Int):Prop:=iN (dc (v0≤v1))
def xI0(x1 x10 x11 g004 r1):rS 15 xBm (xDC x1 x10 x11 g004) [F,F,Y] [xAa r1]=dn (xAn (x11,false,r1)) [xIT x10 x11,iN false,iY (dc (x10>x11)),AbC 62 (xAg x11 x1 g004) (xAa r1),2≤Ln g004,Ln r1=Ln g004]:=by kernel_rfl
def xI1(x1 x10 x11 g004 r1):rS 15 xBm (xDC x1 x10 x11 g004) [F,F,F] [xAa r1]=st 13 xBm (xDe x1 (W (x10+1)) (W (x11 - 1)) r1) [xIT x10 x11,iN false,iN (dc (x10>x11)),AbC 62 (xAg x10 x11 g004) (xAa r1),2≤Ln g004,Ln r1=Ln g004]:=by kernel_rfl
def xIU(x1 x10 x11 g004 r1):rS 13 xBm (xDe x1 x10 x11 g004) [Y,Y] [xAc r1]=st 13 xBm (xDe x1 (W (x10+1)) x11 r1.2) [xHs x10 x11,xHl x10 x1 g004 r1,iY r1.1]:=by kernel_rfl
def xIV(x1 x10 x11 g004 r1):rS 13 xBm (xDe x1 x10 x11 g004) [Y,F] [xAc r1]=st 15 xBm (xDC x1 x10 x11 r1.2) [xHs x10 x11,xHl x10 x1 g004 r1,iN r1.1]:=by kernel_rfl
def xIW(x1 x10 x11 g004):rS 13 xBm (xDe x1 x10 x11 g004) [F,F] []=st 15 xBm (xDC x1 x10 x11 g004) [xIT x10 x11,iN false]:=by kernel_rfl
def xJX(x1 x10 x11 g004 r1):rS 5 xBm (xDV x1 x10 x11 g004) [Y,Y] [xAc r1]=st 5 xBm (xDV x1 x10 (W (x11 - 1)) r1.2) [xHs x10 x11,xHl x11 x1 g004 r1,iY (!r1.1)]:=by kernel_rfl
def xJY(x1 x10 x11 g004 r1 r2):rS 5 xBm (xDV x1 x10 x11 g004) [Y,F,Y] [xAc r1,xAa r2]=dn (xAn (x11,true,r2)) [xHs x10 x11,xHl x11 x1 g004 r1,iN (!r1.1),iY (dc (x10>x11)),AbC 62 (xAg x11 x1 r1.2) (xAa r2),2≤Ln r1.2,Ln r2=Ln r1.2]:=by kernel_rfl
def xI5(x1 x10 x11 g004 r1 r2):rS 5 xBm (xDV x1 x10 x11 g004) [Y,F,F] [xAc r1,xAa r2]=st 13 xBm (xDe x1 (W (x10+1)) (W (x11 - 1)) r2) [xHs x10 x11,xHl x11 x1 g004 r1,iN (!r1.1),iN (dc (x10>x11)),AbC 62 (xAg x10 x11 r1.2) (xAa r2),2≤Ln r1.2,Ln r2=Ln r1.2]:=by kernel_rfl
def xI6(x1 x10 x11 g004 r1):rS 5 xBm (xDV x1 x10 x11 g004) [F,F,Y] [xAa r1]=dn (xAn (x11,true,r1)) [xIT x10 x11,iN false,iY (dc (x10>x11)),AbC 62 (xAg x11 x1 g004) (xAa r1),2≤Ln g004,Ln r1=Ln g004]:=by kernel_rfl
def xI7(x1 x10 x11 g004 r1):rS 5 xBm (xDV x1 x10 x11 g004) [F,F,F] [xAa r1]=st 13 xBm (xDe x1 (W (x10+1)) (W (x11 - 1)) r1) [xIT x10 x11,iN false,iN (dc (x10>x11)),AbC 62 (xAg x10 x11 g004) (xAa r1),2≤Ln g004,Ln r1=Ln g004]:=by kernel_rfl
def xI2(x1 x10 x11 g004 r1):rS 3 xBm (xFj x1 x10 x11 g004) [Y,Y] [xAc r1]=st 3 xBm (xFj x1 (W (x10+1)) x11 r1.2) [xHs x10 x11,xHl x10 x1 g004 r1,iY r1.1]:=by kernel_rfl
def xI3(x1 x10 x11 g004 r1):rS 3 xBm (xFj x1 x10 x11 g004) [Y,F] [xAc r1]=st 5 xBm (xDV x1 x10 x11 r1.2) [xHs x10 x11,xHl x10 x1 g004 r1,iN r1.1]:=by kernel_rfl
def xI4(x1 x10 x11 g004):rS 3 xBm (xFj x1 x10 x11 g004) [F,F] []=st 5 xBm (xDV x1 x10 x11 g004) [xIT x10 x11,iN false]:=by kernel_rfl
def xI8(a0 a1 a2 a3 r1):rE xBm (xBt a0 a1 a2 a3) [] [xAa r1]=st 3 xBm (xFj a0 (W (a0+1)) (W (a1 - 1)) r1) [AbC 62 (xAg a0 a2 a3) (xAa r1),2≤Ln a3,Ln r1=Ln a3]:=by kernel_rfl
theorem xH9{N:Nat}{k13:Int→Int→Int→(List Org)→Option (Int×Bool×(List Org))}(hk13:∀z0 z1 z2 z3 r,k13 z0 z1 z2 z3=some r→RS Tryz.f72 xBm 13 (xDe z0 z1 z2 z3) (xAn r)):∀n x1 x10 x11 g004 r,xAI N k13 n x1 x10 x11 g004=some r→RS Tryz.f72 xBm 15 (xDC x1 x10 x11 g004) (xAn r):=by
 intro n
 induction n with
 |zero=>exact fun _ _ _ _ _ h=>nE h
 |succ n ih=>
  exact fun x1 x10 x11 g004 r h=>cE h (fun h0 h=>bE h fun r1 h1 h=>cE h (fun h2 h=>tS xCl (xIX x1 x10 x11 g004 r1) (oc3 h0 (xAi h1) h2 on) (ih _ _ _ _ _ h)) fun h2 h=>cE h (fun h3 h=>bE h fun r2 h4 h=>iE h fun h5 h=>iE h fun h6 h=>dS h xCl (xIY x1 x10 x11 g004 r1 r2) (oc7 h0 (xAi h1) h2 h3 (xAh h4) h5 h6 on)) fun h3 h=>bE h fun r2 h4 h=>iE h fun h5 h=>iE h fun h6 h=>tS xCl (xIZ x1 x10 x11 g004 r1 r2) (oc7 h0 (xAi h1) h2 h3 (xAh h4) h5 h6 on) (hk13 _ _ _ _ _ h)) fun h0 h=>cE h (fun h2 h=>bE h fun r1 h3 h=>iE h fun h4 h=>iE h fun h5 h=>dS h xCl (xI0 x1 x10 x11 g004 r1) (oc6 h0 rfl h2 (xAh h3) h4 h5 on)) fun h2 h=>bE h fun r1 h3 h=>iE h fun h4 h=>iE h fun h5 h=>tS xCl (xI1 x1 x10 x11 g004 r1) (oc6 h0 rfl h2 (xAh h3) h4 h5 on) (hk13 _ _ _ _ _ h)
theorem xH8{N:Nat}:∀n x1 x10 x11 g004 r,xAy N n x1 x10 x11 g004=some r→RS Tryz.f72 xBm 13 (xDe x1 x10 x11 g004) (xAn r):=by
 intro n
 induction n with
 |zero=>exact fun _ _ _ _ _ h=>nE h
 |succ n ih=>
  exact fun x1 x10 x11 g004 r h=>cE h (fun h0 h=>bE h fun r1 h1 h=>cE h (fun h2 h=>tS xCl (xIU x1 x10 x11 g004 r1) (oc3 h0 (xAi h1) h2 on) (ih _ _ _ _ _ h)) fun h2 h=>tS xCl (xIV x1 x10 x11 g004 r1) (oc3 h0 (xAi h1) h2 on) (xH9 ih _ _ _ _ _ _ h)) fun h0 h=>tS xCl (xIW x1 x10 x11 g004) (oc2 h0 rfl on) (xH9 ih _ _ _ _ _ _ h)
theorem xIs{N:Nat}:∀n x1 x10 x11 g004 r,xAM N n x1 x10 x11 g004=some r→RS Tryz.f72 xBm 5 (xDV x1 x10 x11 g004) (xAn r):=by
 intro n
 induction n with
 |zero=>exact fun _ _ _ _ _ h=>nE h
 |succ n ih=>
  exact fun x1 x10 x11 g004 r h=>cE h (fun h0 h=>bE h fun r1 h1 h=>cE h (fun h2 h=>tS xCl (xJX x1 x10 x11 g004 r1) (oc3 h0 (xAi h1) h2 on) (ih _ _ _ _ _ h)) fun h2 h=>cE h (fun h3 h=>bE h fun r2 h4 h=>iE h fun h5 h=>iE h fun h6 h=>dS h xCl (xJY x1 x10 x11 g004 r1 r2) (oc7 h0 (xAi h1) h2 h3 (xAh h4) h5 h6 on)) fun h3 h=>bE h fun r2 h4 h=>iE h fun h5 h=>iE h fun h6 h=>tS xCl (xI5 x1 x10 x11 g004 r1 r2) (oc7 h0 (xAi h1) h2 h3 (xAh h4) h5 h6 on) (xH8 _ _ _ _ _ _ h)) fun h0 h=>cE h (fun h2 h=>bE h fun r1 h3 h=>iE h fun h4 h=>iE h fun h5 h=>dS h xCl (xI6 x1 x10 x11 g004 r1) (oc6 h0 rfl h2 (xAh h3) h4 h5 on)) fun h2 h=>bE h fun r1 h3 h=>iE h fun h4 h=>iE h fun h5 h=>tS xCl (xI7 x1 x10 x11 g004 r1) (oc6 h0 rfl h2 (xAh h3) h4 h5 on) (xH8 _ _ _ _ _ _ h)
theorem xLI{N:Nat}:∀n x1 x10 x11 g004 r,xBe N n x1 x10 x11 g004=some r→RS Tryz.f72 xBm 3 (xFj x1 x10 x11 g004) (xAn r):=by
 intro n
 induction n with
 |zero=>exact fun _ _ _ _ _ h=>nE h
 |succ n ih=>
  exact fun x1 x10 x11 g004 r h=>cE h (fun h0 h=>bE h fun r1 h1 h=>cE h (fun h2 h=>tS xCl (xI2 x1 x10 x11 g004 r1) (oc3 h0 (xAi h1) h2 on) (ih _ _ _ _ _ h)) fun h2 h=>tS xCl (xI3 x1 x10 x11 g004 r1) (oc3 h0 (xAi h1) h2 on) (xIs _ _ _ _ _ _ h)) fun h0 h=>tS xCl (xI4 x1 x10 x11 g004) (oc2 h0 rfl on) (xIs _ _ _ _ _ _ h)
theorem xLJ{N:Nat}:∀a0 a1 a2 a3 r,xBG N a0 a1 a2 a3=some r→RE Tryz.f72 xBm (xBt a0 a1 a2 a3) (xAn r):=fun a0 a1 a2 a3 r h=>bE h fun r1 h0 h=>iE h fun h1 h=>iE h fun h2 h=>tE xCl (xI8 a0 a1 a2 a3 r1) (oc3 (xAh h0) h1 h2 on) (xLI _ _ _ _ _ _ h)
theorem xC6{N:Nat}{a0:Int}{a1:Int}{a2:Int}{a3:List Org}{r:Int×Bool×(List Org)}(h:xBG N  a0 a1 a2 a3=some r):AbC 72 (xBt a0 a1 a2 a3) (xAn r):=
 AbsCalls.of_reach xCl rfl rfl rfl (jL rfl) (xLJ a0 a1 a2 a3 r h)
noncomputable def xCm:Info:= { body:=(Tryz.f71.body).getD .skip,nt:=58,results:=[.tmp 8],keep:=[0,2,4,6,8,16,18,20,60,84,94,2000008,9,2000009],live:=[(3,[2,8,18,20,2000008,9,2000009]),(5,[2,8,18,20,2000008,9,2000009])],modes:=[(3,[(3,.take,false)]),(5,[(3,.take,false)])],ext:=[1000004] }
theorem xEb:FnOk Tryz.prog 71 Tryz.f71 xCm:=by refine⟨Tryz.func71,?_,?_,?_,?_⟩<;>kernel_rfl
def xDT(x1 x9 x10:Int)(g004:List Org):St:=[(2,.v false [.int .i64 x1]),(8,.v false [.ptr 4 0]),(18,.v false [.int .i64 x9]),(20,.v false [.int .i64 x10]),(9,.v true [.clo 20 [1000004],.swp 62 0 (.pointer (some ⟨3,41,none⟩)) 1000004]),(2000009,.v true [.sl (.lnt 0) .org g004])]
def xDU(x1 x9 x10:Int)(g004:List Org):St:=[(2,.v false [.int .i64 x1]),(8,.v false [.ptr 4 0]),(18,.v false [.int .i64 x9]),(20,.v false [.int .i64 x10]),(9,.v true [.clo 20 [1000004],.swp 62 0 (.pointer (some ⟨3,41,none⟩)) 1000004]),(2000009,.v true [.sl (.lnt 0) .org g004])]
def xJR(x1 x9 x10 g004 r1):rS 5 xCm (xDU x1 x9 x10 g004) [Y,Y] [xAc r1]=st 5 xCm (xDU x1 x9 (W (x10 - 1)) r1.2) [xHs x9 x10,xHl x1 x10 g004 r1,iY r1.1]:=by kernel_rfl
def xJS(x1 x9 x10 g004 r1):rS 5 xCm (xDU x1 x9 x10 g004) [Y,F,Y] [xAc r1]=dn (xAw (x9,r1.2)) [xHs x9 x10,xHl x1 x10 g004 r1,iN r1.1,iY (dc (x9>x10))]:=by kernel_rfl
def xJT(x1 x9 x10 g004 r1 r2):rS 5 xCm (xDU x1 x9 x10 g004) [Y,F,F] [xAc r1,xAa r2]=st 3 xCm (xDT x1 (W (x9+1)) (W (x10 - 1)) r2) [xHs x9 x10,xHl x1 x10 g004 r1,iN r1.1,iN (dc (x9>x10)),AbC 62 (xAg x9 x10 r1.2) (xAa r2),2≤Ln r1.2,Ln r2=Ln r1.2]:=by kernel_rfl
def xJU(x1 x9 x10 g004):rS 5 xCm (xDU x1 x9 x10 g004) [F,F,Y] []=dn (xAw (x9,g004)) [xIT x9 x10,iN false,iY (dc (x9>x10))]:=by kernel_rfl
def xJV(x1 x9 x10 g004 r1):rS 5 xCm (xDU x1 x9 x10 g004) [F,F,F] [xAa r1]=st 3 xCm (xDT x1 (W (x9+1)) (W (x10 - 1)) r1) [xIT x9 x10,iN false,iN (dc (x9>x10)),AbC 62 (xAg x9 x10 g004) (xAa r1),2≤Ln g004,Ln r1=Ln g004]:=by kernel_rfl
def xJO(x1 x9 x10 g004 r1):rS 3 xCm (xDT x1 x9 x10 g004) [Y,Y] [xAc r1]=st 3 xCm (xDT x1 (W (x9+1)) x10 r1.2) [xHs x9 x10,xHl x1 x9 g004 r1,iY (!r1.1)]:=by kernel_rfl
def xJP(x1 x9 x10 g004 r1):rS 3 xCm (xDT x1 x9 x10 g004) [Y,F] [xAc r1]=st 5 xCm (xDU x1 x9 x10 r1.2) [xHs x9 x10,xHl x1 x9 g004 r1,iN (!r1.1)]:=by kernel_rfl
def xJQ(x1 x9 x10 g004):rS 3 xCm (xDT x1 x9 x10 g004) [F,F] []=st 5 xCm (xDU x1 x9 x10 g004) [xIT x9 x10,iN false]:=by kernel_rfl
def xJW(a0 a1 a2 a3 r1):rE xCm (xBD a0 a1 a2 a3) [] [xAa r1]=st 3 xCm (xDT a0 (W (a0+1)) (W (a1 - 1)) r1) [AbC 62 (xAg a0 a2 a3) (xAa r1),2≤Ln a3,Ln r1=Ln a3]:=by kernel_rfl
theorem xIr{N:Nat}{k3:Int→Int→Int→(List Org)→Option (Int×(List Org))}(hk3:∀z0 z1 z2 z3 r,k3 z0 z1 z2 z3=some r→RS Tryz.f71 xCm 3 (xDT z0 z1 z2 z3) (xAw r)):∀n x1 x9 x10 g004 r,xAD N k3 n x1 x9 x10 g004=some r→RS Tryz.f71 xCm 5 (xDU x1 x9 x10 g004) (xAw r):=by
 intro n
 induction n with
 |zero=>exact fun _ _ _ _ _ h=>nE h
 |succ n ih=>
  exact fun x1 x9 x10 g004 r h=>cE h (fun h0 h=>bE h fun r1 h1 h=>cE h (fun h2 h=>tS xEb (xJR x1 x9 x10 g004 r1) (oc3 h0 (xAi h1) h2 on) (ih _ _ _ _ _ h)) fun h2 h=>cE h (fun h3 h=>dS h xEb (xJS x1 x9 x10 g004 r1) (oc4 h0 (xAi h1) h2 h3 on)) fun h3 h=>bE h fun r2 h4 h=>iE h fun h5 h=>iE h fun h6 h=>tS xEb (xJT x1 x9 x10 g004 r1 r2) (oc7 h0 (xAi h1) h2 h3 (xAh h4) h5 h6 on) (hk3 _ _ _ _ _ h)) fun h0 h=>cE h (fun h2 h=>dS h xEb (xJU x1 x9 x10 g004) (oc3 h0 rfl h2 on)) fun h2 h=>bE h fun r1 h3 h=>iE h fun h4 h=>iE h fun h5 h=>tS xEb (xJV x1 x9 x10 g004 r1) (oc6 h0 rfl h2 (xAh h3) h4 h5 on) (hk3 _ _ _ _ _ h)
theorem xLG{N:Nat}:∀n x1 x9 x10 g004 r,xAC N n x1 x9 x10 g004=some r→RS Tryz.f71 xCm 3 (xDT x1 x9 x10 g004) (xAw r):=by
 intro n
 induction n with
 |zero=>exact fun _ _ _ _ _ h=>nE h
 |succ n ih=>
  exact fun x1 x9 x10 g004 r h=>cE h (fun h0 h=>bE h fun r1 h1 h=>cE h (fun h2 h=>tS xEb (xJO x1 x9 x10 g004 r1) (oc3 h0 (xAi h1) h2 on) (ih _ _ _ _ _ h)) fun h2 h=>tS xEb (xJP x1 x9 x10 g004 r1) (oc3 h0 (xAi h1) h2 on) (xIr ih _ _ _ _ _ _ h)) fun h0 h=>tS xEb (xJQ x1 x9 x10 g004) (oc2 h0 rfl on) (xIr ih _ _ _ _ _ _ h)
theorem xLH{N:Nat}:∀a0 a1 a2 a3 r,xBo N a0 a1 a2 a3=some r→RE Tryz.f71 xCm (xBD a0 a1 a2 a3) (xAw r):=fun a0 a1 a2 a3 r h=>bE h fun r1 h0 h=>iE h fun h1 h=>iE h fun h2 h=>tE xEb (xJW a0 a1 a2 a3 r1) (oc3 (xAh h0) h1 h2 on) (xLG _ _ _ _ _ _ h)
theorem xD1{N:Nat}{a0:Int}{a1:Int}{a2:Int}{a3:List Org}{r:Int×(List Org)}(h:xBo N  a0 a1 a2 a3=some r):AbC 71 (xBD a0 a1 a2 a3) (xAw r):=
 AbsCalls.of_reach xEb rfl rfl rfl (jL rfl) (xLH a0 a1 a2 a3 r h)
noncomputable def xBi:Info:= { body:=(Tryz.f70.body).getD .skip,nt:=91,results:=[.tmp 6],keep:=[0,2,4,6,12,14,16,18,20,28,56,66,74,94,102,120,140,150,168,2000006,7,2000007],live:=[(3,[2,4,6,14,16,2000006,7,2000007]),(5,[2,4,6,14,16,2000006,7,2000007]),(7,[2,4,6,14,16,2000006,7,2000007]),(14,[2,4,6,14,16,18,2000006,7,2000007]),(18,[2,4,6,14,16,2000006,7,2000007]),(20,[2,4,6,14,16,20,2000006,7,2000007])],modes:=[(5,[(3,.take,false)])],ext:=[1000003] }
theorem xCB:FnOk Tryz.prog 70 Tryz.f70 xBi:=by refine⟨Tryz.func70,?_,?_,?_,?_⟩<;>kernel_rfl
def xDy(x1 x2 x7 x8:Int)(g003:List Org):St:=[(2,.v false [.int .i64 x1]),(4,.v false [.int .i64 x2]),(6,.v false [.ptr 3 0]),(14,.v false [.int .i64 x7]),(16,.v false [.int .i64 x8]),(7,.v true [.clo 20 [1000003],.swp 62 0 (.pointer (some ⟨3,41,none⟩)) 1000003]),(2000007,.v true [.sl (.lnt 0) .org g003])]
def xF5(x1 x2 x7 x8:Int)(g003:List Org):St:=[(2,.v false [.int .i64 x1]),(4,.v false [.int .i64 x2]),(6,.v false [.ptr 3 0]),(14,.v false [.int .i64 x7]),(16,.v false [.int .i64 x8]),(7,.v true [.clo 20 [1000003],.swp 62 0 (.pointer (some ⟨3,41,none⟩)) 1000003]),(2000007,.v true [.sl (.lnt 0) .org g003])]
def xFp(x1 x2 x7 x8:Int)(g003:List Org):St:=[(2,.v false [.int .i64 x1]),(4,.v false [.int .i64 x2]),(6,.v false [.ptr 3 0]),(14,.v false [.int .i64 x7]),(16,.v false [.int .i64 x8]),(7,.v true [.clo 20 [1000003],.swp 62 0 (.pointer (some ⟨3,41,none⟩)) 1000003]),(2000007,.v true [.sl (.lnt 0) .org g003])]
def xFm(x1 x2 x7 x8 x9:Int)(g003:List Org):St:=[(2,.v false [.int .i64 x1]),(4,.v false [.int .i64 x2]),(6,.v false [.ptr 3 0]),(14,.v false [.int .i64 x7]),(16,.v false [.int .i64 x8]),(18,.v false [.int .i64 x9]),(7,.v true [.clo 20 [1000003],.swp 62 0 (.pointer (some ⟨3,41,none⟩)) 1000003]),(2000007,.v true [.sl (.lnt 0) .org g003])]
def xFn(x1 x2 x7 x8:Int)(g003:List Org):St:=[(2,.v false [.int .i64 x1]),(4,.v false [.int .i64 x2]),(6,.v false [.ptr 3 0]),(14,.v false [.int .i64 x7]),(16,.v false [.int .i64 x8]),(7,.v true [.clo 20 [1000003],.swp 62 0 (.pointer (some ⟨3,41,none⟩)) 1000003]),(2000007,.v true [.sl (.lnt 0) .org g003])]
def xFo(x1 x2 x7 x8 x10:Int)(g003:List Org):St:=[(2,.v false [.int .i64 x1]),(4,.v false [.int .i64 x2]),(6,.v false [.ptr 3 0]),(14,.v false [.int .i64 x7]),(16,.v false [.int .i64 x8]),(20,.v false [.int .i64 x10]),(7,.v true [.clo 20 [1000003],.swp 62 0 (.pointer (some ⟨3,41,none⟩)) 1000003]),(2000007,.v true [.sl (.lnt 0) .org g003])]
abbrev xK1(v0:Int)(v1:List Org)(v2:Bool×(List Org)):Prop:=AbC 20 (xAU v0 (W (v0 - 1)) v1) (xAc v2)
def xKv(x1 x2 x7 x8 x10 g003 r1):rS 20 xBi (xFo x1 x2 x7 x8 x10 g003) [Y,Y] [xAc r1]=st 3 xBi (xDy x1 x2 x7 (W (x8+1)) r1.2) [xDm x10 x2,xK1 x10 g003 r1,iY (!r1.1)]:=by kernel_rfl
def xKw(x1 x2 x7 x8 x10 g003 r1 r2):rS 20 xBi (xFo x1 x2 x7 x8 x10 g003) [Y,F] [xAc r1,xAa r2]=st 20 xBi (xFo x1 x2 x7 x8 (W (x10+1)) r2) [xDm x10 x2,xK1 x10 g003 r1,iN (!r1.1),AbC 62 (xAg x10 (W (x10 - 1)) r1.2) (xAa r2),2≤Ln r1.2,Ln r2=Ln r1.2]:=by kernel_rfl
def xKx(x1 x2 x7 x8 x10 g003):rS 20 xBi (xFo x1 x2 x7 x8 x10 g003) [F] []=st 3 xBi (xDy x1 x2 x7 (W (x8+1)) g003) [xE1 x10 x2]:=by kernel_rfl
def xKt(x1 x2 x7 x8 g003):rS 18 xBi (xFn x1 x2 x7 x8 g003) [Y] []=st 20 xBi (xFo x1 x2 x7 x8 (W (x7+1)) g003) [iY (dc ((W (x2 - x7))≥2))]:=by kernel_rfl
def xKu(x1 x2 x7 x8 g003):rS 18 xBi (xFn x1 x2 x7 x8 g003) [F] []=st 3 xBi (xDy x1 x2 x7 (W (x8+1)) g003) [iN (dc ((W (x2 - x7))≥2))]:=by kernel_rfl
def xKq(x1 x2 x7 x8 x9 g003 r1):rS 14 xBi (xFm x1 x2 x7 x8 x9 g003) [Y,Y] [xAc r1]=st 18 xBi (xFn x1 x2 x7 x8 r1.2) [iY (dc (x9≥1)),xK1 x9 g003 r1,iY (!r1.1)]:=by kernel_rfl
def xKr(x1 x2 x7 x8 x9 g003 r1 r2):rS 14 xBi (xFm x1 x2 x7 x8 x9 g003) [Y,F] [xAc r1,xAa r2]=st 14 xBi (xFm x1 x2 x7 x8 (W (x9 - 1)) r2) [iY (dc (x9≥1)),xK1 x9 g003 r1,iN (!r1.1),AbC 62 (xAg x9 (W (x9 - 1)) r1.2) (xAa r2),2≤Ln r1.2,Ln r2=Ln r1.2]:=by kernel_rfl
def xKs(x1 x2 x7 x8 x9 g003):rS 14 xBi (xFm x1 x2 x7 x8 x9 g003) [F] []=st 18 xBi (xFn x1 x2 x7 x8 g003) [iN (dc (x9≥1))]:=by kernel_rfl
def xLx(x1 x2 x7 x8 g003):rS 7 xBi (xFp x1 x2 x7 x8 g003) [Y] []=dn (xAd (true,g003)) [iY (x7==x2)]:=by kernel_rfl
def xLy(x1 x2 x7 x8 g003):rS 7 xBi (xFp x1 x2 x7 x8 g003) [F,Y] []=dn (xAd (false,g003)) [iN (x7==x2),iY (dc ((W (x2 - x1))<50))]:=by kernel_rfl
def xKD(x1 x2 x7 x8 g003 r1):rS 7 xBi (xFp x1 x2 x7 x8 g003) [F,F,Y] [xAa r1]=st 14 xBi (xFm x1 x2 x7 x8 (W (x7 - 1)) r1) [iN (x7==x2),iN (dc ((W (x2 - x1))<50)),AbC 62 (xAg x7 (W (x7 - 1)) g003) (xAa r1),2≤Ln g003,Ln r1=Ln g003,iY (dc ((W (x7 - x1))≥2))]:=by kernel_rfl
def xKE(x1 x2 x7 x8 g003 r1):rS 7 xBi (xFp x1 x2 x7 x8 g003) [F,F,F] [xAa r1]=st 18 xBi (xFn x1 x2 x7 x8 r1) [iN (x7==x2),iN (dc ((W (x2 - x1))<50)),AbC 62 (xAg x7 (W (x7 - 1)) g003) (xAa r1),2≤Ln g003,Ln r1=Ln g003,iN (dc ((W (x7 - x1))≥2))]:=by kernel_rfl
def xKA(x1 x2 x7 x8 g003 r1):rS 5 xBi (xF5 x1 x2 x7 x8 g003) [Y,Y] [xAc r1]=st 5 xBi (xF5 x1 x2 (W (x7+1)) x8 r1.2) [xDm x7 x2,xK1 x7 g003 r1,iY (!r1.1)]:=by kernel_rfl
def xKB(x1 x2 x7 x8 g003 r1):rS 5 xBi (xF5 x1 x2 x7 x8 g003) [Y,F] [xAc r1]=st 7 xBi (xFp x1 x2 x7 x8 r1.2) [xDm x7 x2,xK1 x7 g003 r1,iN (!r1.1)]:=by kernel_rfl
def xKC(x1 x2 x7 x8 g003):rS 5 xBi (xF5 x1 x2 x7 x8 g003) [F,F] []=st 7 xBi (xFp x1 x2 x7 x8 g003) [xE1 x7 x2,iN false]:=by kernel_rfl
def xKy(x1 x2 x7 x8 g003):rS 3 xBi (xDy x1 x2 x7 x8 g003) [Y] []=st 5 xBi (xF5 x1 x2 x7 x8 g003) [iY (dc (x8<5))]:=by kernel_rfl
def xKz(x1 x2 x7 x8 g003):rS 3 xBi (xDy x1 x2 x7 x8 g003) [F] []=dn (xAd (false,g003)) [iN (dc (x8<5))]:=by kernel_rfl
def xKF(a0 a1 a2):rE xBi (xAW a0 a1 a2) [] []=st 3 xBi (xDy a0 a1 (W (a0+1)) 0 a2) []:=by kernel_rfl
theorem xLQ{N:Nat}{k3:Int→Int→Int→Int→(List Org)→Option (Bool×(List Org))}(hk3:∀z0 z1 z2 z3 z4 r,k3 z0 z1 z2 z3 z4=some r→RS Tryz.f70 xBi 3 (xDy z0 z1 z2 z3 z4) (xAd r)):∀n x1 x2 x7 x8 x10 g003 r,xAH N k3 n x1 x2 x7 x8 x10 g003=some r→RS Tryz.f70 xBi 20 (xFo x1 x2 x7 x8 x10 g003) (xAd r):=by
 intro n
 induction n with
 |zero=>exact fun _ _ _ _ _ _ _ h=>nE h
 |succ n ih=>
  exact fun x1 x2 x7 x8 x10 g003 r h=>cE h (fun h0 h=>bE h fun r1 h1 h=>cE h (fun h2 h=>tS xCB (xKv x1 x2 x7 x8 x10 g003 r1) (oc3 h0 (xAi h1) h2 on) (hk3 _ _ _ _ _ _ h)) fun h2 h=>bE h fun r2 h3 h=>iE h fun h4 h=>iE h fun h5 h=>tS xCB (xKw x1 x2 x7 x8 x10 g003 r1 r2) (oc6 h0 (xAi h1) h2 (xAh h3) h4 h5 on) (ih _ _ _ _ _ _ _ h)) fun h0 h=>tS xCB (xKx x1 x2 x7 x8 x10 g003) (oc h0 on) (hk3 _ _ _ _ _ _ h)
theorem xHC{N:Nat}{k3:Int→Int→Int→Int→(List Org)→Option (Bool×(List Org))}(hk3:∀z0 z1 z2 z3 z4 r,k3 z0 z1 z2 z3 z4=some r→RS Tryz.f70 xBi 3 (xDy z0 z1 z2 z3 z4) (xAd r)):∀x1 x2 x7 x8 g003 r,xAz N k3 x1 x2 x7 x8 g003=some r→RS Tryz.f70 xBi 18 (xFn x1 x2 x7 x8 g003) (xAd r):=fun x1 x2 x7 x8 g003 r h=>cE h (fun h0 h=>tS xCB (xKt x1 x2 x7 x8 g003) (oc h0 on) (xLQ hk3 _ _ _ _ _ _ _ _ h)) fun h0 h=>tS xCB (xKu x1 x2 x7 x8 g003) (oc h0 on) (hk3 _ _ _ _ _ _ h)
theorem xLP{N:Nat}{k3:Int→Int→Int→Int→(List Org)→Option (Bool×(List Org))}(hk3:∀z0 z1 z2 z3 z4 r,k3 z0 z1 z2 z3 z4=some r→RS Tryz.f70 xBi 3 (xDy z0 z1 z2 z3 z4) (xAd r)):∀n x1 x2 x7 x8 x9 g003 r,xAG N k3 n x1 x2 x7 x8 x9 g003=some r→RS Tryz.f70 xBi 14 (xFm x1 x2 x7 x8 x9 g003) (xAd r):=by
 intro n
 induction n with
 |zero=>exact fun _ _ _ _ _ _ _ h=>nE h
 |succ n ih=>
  exact fun x1 x2 x7 x8 x9 g003 r h=>cE h (fun h0 h=>bE h fun r1 h1 h=>cE h (fun h2 h=>tS xCB (xKq x1 x2 x7 x8 x9 g003 r1) (oc3 h0 (xAi h1) h2 on) (xHC hk3 _ _ _ _ _ _ h)) fun h2 h=>bE h fun r2 h3 h=>iE h fun h4 h=>iE h fun h5 h=>tS xCB (xKr x1 x2 x7 x8 x9 g003 r1 r2) (oc6 h0 (xAi h1) h2 (xAh h3) h4 h5 on) (ih _ _ _ _ _ _ _ h)) fun h0 h=>tS xCB (xKs x1 x2 x7 x8 x9 g003) (oc h0 on) (xHC hk3 _ _ _ _ _ _ h)
theorem xJi{N:Nat}{k3:Int→Int→Int→Int→(List Org)→Option (Bool×(List Org))}(hk3:∀z0 z1 z2 z3 z4 r,k3 z0 z1 z2 z3 z4=some r→RS Tryz.f70 xBi 3 (xDy z0 z1 z2 z3 z4) (xAd r)):∀x1 x2 x7 x8 g003 r,xAK N k3 x1 x2 x7 x8 g003=some r→RS Tryz.f70 xBi 7 (xFp x1 x2 x7 x8 g003) (xAd r):=fun x1 x2 x7 x8 g003 r h=>cE h (fun h0 h=>dS h xCB (xLx x1 x2 x7 x8 g003) (oc h0 on)) fun h0 h=>cE h (fun h1 h=>dS h xCB (xLy x1 x2 x7 x8 g003) (oc2 h0 h1 on)) fun h1 h=>bE h fun r1 h2 h=>iE h fun h3 h=>iE h fun h4 h=>cE h (fun h5 h=>tS xCB (xKD x1 x2 x7 x8 g003 r1) (oc6 h0 h1 (xAh h2) h3 h4 h5 on) (xLP hk3 _ _ _ _ _ _ _ _ h)) fun h5 h=>tS xCB (xKE x1 x2 x7 x8 g003 r1) (oc6 h0 h1 (xAh h2) h3 h4 h5 on) (xHC hk3 _ _ _ _ _ _ h)
theorem xM3{N:Nat}{k3:Int→Int→Int→Int→(List Org)→Option (Bool×(List Org))}(hk3:∀z0 z1 z2 z3 z4 r,k3 z0 z1 z2 z3 z4=some r→RS Tryz.f70 xBi 3 (xDy z0 z1 z2 z3 z4) (xAd r)):∀n x1 x2 x7 x8 g003 r,xAJ N k3 n x1 x2 x7 x8 g003=some r→RS Tryz.f70 xBi 5 (xF5 x1 x2 x7 x8 g003) (xAd r):=by
 intro n
 induction n with
 |zero=>exact fun _ _ _ _ _ _ h=>nE h
 |succ n ih=>
  exact fun x1 x2 x7 x8 g003 r h=>cE h (fun h0 h=>bE h fun r1 h1 h=>cE h (fun h2 h=>tS xCB (xKA x1 x2 x7 x8 g003 r1) (oc3 h0 (xAi h1) h2 on) (ih _ _ _ _ _ _ h)) fun h2 h=>tS xCB (xKB x1 x2 x7 x8 g003 r1) (oc3 h0 (xAi h1) h2 on) (xJi hk3 _ _ _ _ _ _ h)) fun h0 h=>tS xCB (xKC x1 x2 x7 x8 g003) (oc2 h0 rfl on) (xJi hk3 _ _ _ _ _ _ h)
theorem xM2{N:Nat}:∀n x1 x2 x7 x8 g003 r,xAB N n x1 x2 x7 x8 g003=some r→RS Tryz.f70 xBi 3 (xDy x1 x2 x7 x8 g003) (xAd r):=by
 intro n
 induction n with
 |zero=>exact fun _ _ _ _ _ _ h=>nE h
 |succ n ih=>
  exact fun x1 x2 x7 x8 g003 r h=>cE h (fun h0 h=>tS xCB (xKy x1 x2 x7 x8 g003) (oc h0 on) (xM3 ih _ _ _ _ _ _ _ h)) fun h0 h=>dS h xCB (xKz x1 x2 x7 x8 g003) (oc h0 on)
theorem xM4{N:Nat}:∀a0 a1 a2 r,xA8 N a0 a1 a2=some r→RE Tryz.f70 xBi (xAW a0 a1 a2) (xAd r):=fun a0 a1 a2 r h=>tE xCB (xKF a0 a1 a2) on (xM2 _ _ _ _ _ _ _ h)
theorem xCi{N:Nat}{a0:Int}{a1:Int}{a2:List Org}{r:Bool×(List Org)}(h:xA8 N  a0 a1 a2=some r):AbC 70 (xAW a0 a1 a2) (xAd r):=
 AbsCalls.of_reach xCB rfl rfl rfl (jL rfl) (xM4 a0 a1 a2 r h)
noncomputable def xHK:Info:= { body:=(Tryz.f89.body).getD .skip,nt:=24,results:=[.tmp 8,.tmp 9],keep:=[0,2,4,6,8,16,18,28,2000008,7,9,2000009],live:=[],modes:=[],ext:=[3,1000004] }
theorem xH0:FnOk Tryz.prog 89 Tryz.f89 xHK:=by refine⟨Tryz.func89,?_,?_,?_,?_⟩<;>kernel_rfl
def xJ9(a0 a1 a2 a3 r1):rE xHK (xBa a0 a1 a2 a3) [Y] [xAc r1]=dn (xAE (a1,a0,(W (a2+1)),r1.2)) [xHl a1 a0 a3 r1,iY r1.1]:=by kernel_rfl
def xKa(a0 a1 a2 a3 r1):rE xHK (xBa a0 a1 a2 a3) [F] [xAc r1]=dn (xAE (a0,a1,a2,r1.2)) [xHl a1 a0 a3 r1,iN r1.1]:=by kernel_rfl
theorem xLO{N:Nat}:∀a0 a1 a2 a3 r,xBl N a0 a1 a2 a3=some r→RE Tryz.f89 xHK (xBa a0 a1 a2 a3) (xAE r):=fun a0 a1 a2 a3 r h=>bE h fun r1 h0 h=>cE h (fun h1 h=>dE h xH0 (xJ9 a0 a1 a2 a3 r1) (oc2 (xAi h0) h1 on)) fun h1 h=>dE h xH0 (xKa a0 a1 a2 a3 r1) (oc2 (xAi h0) h1 on)
theorem xCw{N:Nat}{a0:Int}{a1:Int}{a2:Int}{a3:List Org}{r:Int×Int×Int×(List Org)}(h:xBl N  a0 a1 a2 a3=some r):AbC 89 (xBa a0 a1 a2 a3) (xAE r):=
 AbsCalls.of_reach xH0 rfl rfl rfl (jL rfl) (xLO a0 a1 a2 a3 r h)
noncomputable def xIp:Info:= { body:=(Tryz.f84.body).getD .skip,nt:=36,results:=[.tmp 10],keep:=[0,2,4,6,8,10,20,2000010,9,11,2000011],live:=[],modes:=[(1,[(5,.take,false)]),(2,[(5,.take,false)]),(3,[(5,.take,false)])],ext:=[4,1000005] }
theorem xJk:FnOk Tryz.prog 84 Tryz.f84 xIp:=by refine⟨Tryz.func84,?_,?_,?_,?_⟩<;>kernel_rfl
def xJ8(a0 a1 a2 a3 a4 r1 r2 r3):rE xIp (xAT a0 a1 a2 a3 a4) [] [cl (xAE r1),cl (xAE r2),cl (xAE r3)]=dn (xAq (r3.2.1,r3.2.2.1,r3.2.2.2)) [AbC 89 (xBa a0 a1 a3 a4) (xAE r1),AbC 89 (xBa r1.2.1 a2 r1.2.2.1 r1.2.2.2) (xAE r2),AbC 89 (xBa r1.1 r2.1 r2.2.2.1 r2.2.2.2) (xAE r3)]:=by kernel_rfl
theorem xLN{N:Nat}:∀a0 a1 a2 a3 a4 r,xBk N a0 a1 a2 a3 a4=some r→RE Tryz.f84 xIp (xAT a0 a1 a2 a3 a4) (xAq r):=fun a0 a1 a2 a3 a4 r h=>bE h fun r1 h0 h=>bE h fun r2 h1 h=>bE h fun r3 h2 h=>dE h xJk (xJ8 a0 a1 a2 a3 a4 r1 r2 r3) (oc3 (xCw h0) (xCw h1) (xCw h2) on)
theorem xA9{N:Nat}{a0:Int}{a1:Int}{a2:Int}{a3:Int}{a4:List Org}{r:Int×Int×(List Org)}(h:xBk N  a0 a1 a2 a3 a4=some r):AbC 84 (xAT a0 a1 a2 a3 a4) (xAq r):=
 AbsCalls.of_reach xJk rfl rfl rfl (jL rfl) (xLN a0 a1 a2 a3 a4 r h)
noncomputable def xIo:Info:= { body:=(Tryz.f83.body).getD .skip,nt:=15,results:=[.tmp 6],keep:=[0,2,4,6,12,2000006,5,7,2000007],live:=[],modes:=[],ext:=[2,1000003] }
theorem xJj:FnOk Tryz.prog 83 Tryz.f83 xIo:=by refine⟨Tryz.func83,?_,?_,?_,?_⟩<;>kernel_rfl
def xJ7(a0 a1 a2 r1):rE xIo (xAV a0 a1 a2) [] [cl (xAq r1)]=dn (xAl (r1.1,r1.2.1,r1.2.2)) [AbC 84 (xAT (W (a0 - 1)) a0 (W (a0+1)) a1 a2) (xAq r1)]:=by kernel_rfl
theorem xLM{N:Nat}:∀a0 a1 a2 r,xAQ N a0 a1 a2=some r→RE Tryz.f83 xIo (xAV a0 a1 a2) (xAl r):=fun a0 a1 a2 r h=>bE h fun r1 h0 h=>dE h xJj (xJ7 a0 a1 a2 r1) (oc (xA9 h0) on)
theorem xAv{N:Nat}{a0:Int}{a1:Int}{a2:List Org}{r:Int×Int×(List Org)}(h:xAQ N  a0 a1 a2=some r):AbC 83 (xAV a0 a1 a2) (xAl r):=
 AbsCalls.of_reach xJj rfl rfl rfl (jL rfl) (xLM a0 a1 a2 r h)
noncomputable def xE3:Info:= { body:=(Tryz.f68.body).getD .skip,nt:=57,results:=[.tmp 6,.tmp 7],keep:=[0,2,4,6,12,14,16,18,20,22,24,64,68,98,102,108,2000006,7,19,2000007],live:=[],modes:=[],ext:=[1000003] }
theorem xEI:FnOk Tryz.prog 68 Tryz.f68 xE3:=by refine⟨Tryz.func68,?_,?_,?_,?_⟩<;>kernel_rfl
abbrev xJE(v0 v1:Int):=W (Int.tdiv (W (v0 - v1)) 4)
abbrev xPJ(v0 v1:Int)(v2:List Org)(v3:Int×Int×(List Org)):Prop:=AbC 83 (xAV (W (v0+(W ((xJE v1 v0)*1)))) 0 v2) (xAl v3)
abbrev xPK(v0 v1:Int)(v2 v3:Int×Int×(List Org)):Prop:=AbC 83 (xAV (xH2 v0 v1) v2.2.1 v2.2.2) (xAl v3)
abbrev xNy(v0 v1:Int)(v2 v3:Int×Int×(List Org)):Prop:=AbC 83 (xAV (W (v0+(W ((xJE v1 v0)*3)))) v2.2.1 v2.2.2) (xAl v3)
abbrev xH3(v0 v1:Int):=dc ((W (v0 - v1))≥50)
def xLl(a0 a1 a2 r1 r2 r3 r4):rE xE3 (xAp a0 a1 a2) [Y,Y,Y] [cl (xAl r1),cl (xAl r2),cl (xAl r3),cl (xAq r4)]=dn (xAm (r4.1,1,r4.2.2)) [4≠(0:Int),4≠(0:Int),4≠(0:Int),xMa a1 a0,iY (xH3 a1 a0),xPJ a0 a1 a2 r1,xPK a0 a1 r1 r2,xNy a0 a1 r2 r3,AbC 84 (xAT r1.1 r2.1 r3.1 r3.2.1 r3.2.2) (xAq r4),iY (r4.2.1==0)]:=by kernel_rfl
def xLm(a0 a1 a2 r1 r2 r3 r4):rE xE3 (xAp a0 a1 a2) [Y,Y,F,Y] [cl (xAl r1),cl (xAl r2),cl (xAl r3),cl (xAq r4)]=dn (xAm (r4.1,2,r4.2.2)) [4≠(0:Int),4≠(0:Int),4≠(0:Int),xMa a1 a0,iY (xH3 a1 a0),xPJ a0 a1 a2 r1,xPK a0 a1 r1 r2,xNy a0 a1 r2 r3,AbC 84 (xAT r1.1 r2.1 r3.1 r3.2.1 r3.2.2) (xAq r4),iN (r4.2.1==0),iY (r4.2.1==12)]:=by kernel_rfl
def xLn(a0 a1 a2 r1 r2 r3 r4):rE xE3 (xAp a0 a1 a2) [Y,Y,F,F] [cl (xAl r1),cl (xAl r2),cl (xAl r3),cl (xAq r4)]=dn (xAm (r4.1,0,r4.2.2)) [4≠(0:Int),4≠(0:Int),4≠(0:Int),xMa a1 a0,iY (xH3 a1 a0),xPJ a0 a1 a2 r1,xPK a0 a1 r1 r2,xNy a0 a1 r2 r3,AbC 84 (xAT r1.1 r2.1 r3.1 r3.2.1 r3.2.2) (xAq r4),iN (r4.2.1==0),iN (r4.2.1==12)]:=by kernel_rfl
abbrev xNz(v0 v1:Int)(v2:List Org)(v3:Int×Int×(List Org)):Prop:=AbC 84 (xAT (W (v0+(W ((xJE v1 v0)*1)))) (xH2 v0 v1) (W (v0+(W ((xJE v1 v0)*3)))) 0 v2) (xAq v3)
def xLo(a0 a1 a2 r1):rE xE3 (xAp a0 a1 a2) [Y,F,Y] [cl (xAq r1)]=dn (xAm (r1.1,1,r1.2.2)) [4≠(0:Int),4≠(0:Int),4≠(0:Int),xMa a1 a0,iN (xH3 a1 a0),xNz a0 a1 a2 r1,iY (r1.2.1==0)]:=by kernel_rfl
def xLp(a0 a1 a2 r1):rE xE3 (xAp a0 a1 a2) [Y,F,F,Y] [cl (xAq r1)]=dn (xAm (r1.1,2,r1.2.2)) [4≠(0:Int),4≠(0:Int),4≠(0:Int),xMa a1 a0,iN (xH3 a1 a0),xNz a0 a1 a2 r1,iN (r1.2.1==0),iY (r1.2.1==12)]:=by kernel_rfl
def xLq(a0 a1 a2 r1):rE xE3 (xAp a0 a1 a2) [Y,F,F,F] [cl (xAq r1)]=dn (xAm (r1.1,0,r1.2.2)) [4≠(0:Int),4≠(0:Int),4≠(0:Int),xMa a1 a0,iN (xH3 a1 a0),xNz a0 a1 a2 r1,iN (r1.2.1==0),iN (r1.2.1==12)]:=by kernel_rfl
def xLr(a0 a1 a2):rE xE3 (xAp a0 a1 a2) [F,Y] []=dn (xAm ((xH2 a0 a1),1,a2)) [4≠(0:Int),4≠(0:Int),4≠(0:Int),iN (dc ((W (a1 - a0))≥8)),iY ((0:Int)==0)]:=by kernel_rfl
def xLs(a0 a1 a2):rE xE3 (xAp a0 a1 a2) [F,F,Y] []=dn (xAm ((xH2 a0 a1),2,a2)) [4≠(0:Int),4≠(0:Int),4≠(0:Int),iN (dc ((W (a1 - a0))≥8)),iN ((0:Int)==0),iY ((0:Int)==12)]:=by kernel_rfl
def xLt(a0 a1 a2):rE xE3 (xAp a0 a1 a2) [F,F,F] []=dn (xAm ((xH2 a0 a1),0,a2)) [4≠(0:Int),4≠(0:Int),4≠(0:Int),iN (dc ((W (a1 - a0))≥8)),iN ((0:Int)==0),iN ((0:Int)==12)]:=by kernel_rfl
theorem xMZ{N:Nat}:∀a0 a1 a2 r,xBy N a0 a1 a2=some r→RE Tryz.f68 xE3 (xAp a0 a1 a2) (xAm r):=fun a0 a1 a2 r h=>cE h (fun h3 h=>cE h (fun h4 h=>bE h fun r1 h5 h=>bE h fun r2 h6 h=>bE h fun r3 h7 h=>bE h fun r4 h8 h=>cE h (fun h9 h=>dE h xEI (xLl a0 a1 a2 r1 r2 r3 r4) (oc10 (by decide) (by decide) (by decide) h3 h4 (xAv h5) (xAv h6) (xAv h7) (xA9 h8) h9 on)) fun h9 h=>cE h (fun h10 h=>dE h xEI (xLm a0 a1 a2 r1 r2 r3 r4) (oc11 (by decide) (by decide) (by decide) h3 h4 (xAv h5) (xAv h6) (xAv h7) (xA9 h8) h9 h10 on)) fun h10 h=>dE h xEI (xLn a0 a1 a2 r1 r2 r3 r4) (oc11 (by decide) (by decide) (by decide) h3 h4 (xAv h5) (xAv h6) (xAv h7) (xA9 h8) h9 h10 on)) fun h4 h=>bE h fun r1 h5 h=>cE h (fun h6 h=>dE h xEI (xLo a0 a1 a2 r1) (oc7 (by decide) (by decide) (by decide) h3 h4 (xA9 h5) h6 on)) fun h6 h=>cE h (fun h7 h=>dE h xEI (xLp a0 a1 a2 r1) (oc8 (by decide) (by decide) (by decide) h3 h4 (xA9 h5) h6 h7 on)) fun h7 h=>dE h xEI (xLq a0 a1 a2 r1) (oc8 (by decide) (by decide) (by decide) h3 h4 (xA9 h5) h6 h7 on)) fun h3 h=>cE h (fun h4 h=>dE h xEI (xLr a0 a1 a2) (oc5 (by decide) (by decide) (by decide) h3 h4 on)) fun h4 h=>cE h (fun h5 h=>dE h xEI (xLs a0 a1 a2) (oc6 (by decide) (by decide) (by decide) h3 h4 h5 on)) fun h5 h=>dE h xEI (xLt a0 a1 a2) (oc6 (by decide) (by decide) (by decide) h3 h4 h5 on)
theorem xCY{N:Nat}{a0:Int}{a1:Int}{a2:List Org}{r:Int×Int×(List Org)}(h:xBy N  a0 a1 a2=some r):AbC 68 (xAp a0 a1 a2) (xAm r):=
 AbsCalls.of_reach xEI rfl rfl rfl (jL rfl) (xMZ a0 a1 a2 r h)
noncomputable def xDq:Info:= { body:=(Tryz.f80.body).getD .skip,nt:=55,results:=[],keep:=[0,2,4,6,8,16,18,32,64,88,2000008,9,2000009],live:=[(2,[4,6,8,16,2000008,9,2000009])],modes:=[(4,[(4,.take,false)])],ext:=[1000004] }
theorem xEt:FnOk Tryz.prog 80 Tryz.f80 xDq:=by refine⟨Tryz.func80,?_,?_,?_,?_⟩<;>kernel_rfl
def xC8(x2 x3 x8:Int)(g004:List Org):St:=[(4,.v false [.int .i64 x2]),(6,.v false [.int .i64 x3]),(8,.v false [.ptr 4 0]),(16,.v false [.int .i64 x8]),(9,.v true [.clo 20 [1000004],.swp 62 0 (.pointer (some ⟨3,41,none⟩)) 1000004]),(2000009,.v true [.sl (.lnt 0) .org g004])]
abbrev xJF(v0:Int):=W ((W (2*v0))+1)
def xJZ(x2 x3 x8 g004):rS 2 xDq (xC8 x2 x3 x8 g004) [Y] []=dn (xAu g004) [iY (dc (((xJF x8):Int)≥x2))]:=by kernel_rfl
abbrev xJl(v0 v1:Int):Prop:=iN (dc (((xJF v0):Int)≥v1))
abbrev xLU(v0 v1:Int):=dc (((W ((W ((W (2*v0))+1))+1)):Int)<v1)
abbrev xMl(v0 v1:Int):Prop:=iY (xLU v0 v1)
abbrev xHi(v0 v1:Int):=W (v0+(W ((W (2*v1))+1)))
abbrev xMm(v0 v1:Int)(v2:List Org)(v3:Bool×(List Org)):Prop:=AbC 20 (xAU (xHi v0 v1) (W ((xHi v0 v1)+1)) v2) (xAc v3)
abbrev xJG(v0:Int):=W ((W ((W (2*v0))+1))+1)
def xJ0(x2 x3 x8 g004 r1 r2):rS 2 xDq (xC8 x2 x3 x8 g004) [F,Y,Y,Y] [xAc r1,xAc r2]=dn (xAu r2.2) [xJl x8 x2,xMl x8 x2,xMm x3 x8 g004 r1,iY r1.1,AbC 20 (xAU (W (x3+x8)) (W (x3+(xJG x8))) r1.2) (xAc r2),iY (!r2.1)]:=by kernel_rfl
def xJ1(x2 x3 x8 g004 r1 r2 r3):rS 2 xDq (xC8 x2 x3 x8 g004) [F,Y,Y,F] [xAc r1,xAc r2,xAa r3]=st 2 xDq (xC8 x2 x3 (xJG x8) r3) [xJl x8 x2,xMl x8 x2,xMm x3 x8 g004 r1,iY r1.1,AbC 20 (xAU (W (x3+x8)) (W (x3+(xJG x8))) r1.2) (xAc r2),iN (!r2.1),AbC 62 (xAg (W (x3+x8)) (W (x3+(xJG x8))) r2.2) (xAa r3),2≤Ln r2.2,Ln r3=Ln r2.2]:=by kernel_rfl
def xJ2(x2 x3 x8 g004 r1 r2):rS 2 xDq (xC8 x2 x3 x8 g004) [F,Y,F,Y] [xAc r1,xAc r2]=dn (xAu r2.2) [xJl x8 x2,xMl x8 x2,xMm x3 x8 g004 r1,iN r1.1,AbC 20 (xAU (W (x3+x8)) (xHi x3 x8) r1.2) (xAc r2),iY (!r2.1)]:=by kernel_rfl
def xJ3(x2 x3 x8 g004 r1 r2 r3):rS 2 xDq (xC8 x2 x3 x8 g004) [F,Y,F,F] [xAc r1,xAc r2,xAa r3]=st 2 xDq (xC8 x2 x3 (xJF x8) r3) [xJl x8 x2,xMl x8 x2,xMm x3 x8 g004 r1,iN r1.1,AbC 20 (xAU (W (x3+x8)) (xHi x3 x8) r1.2) (xAc r2),iN (!r2.1),AbC 62 (xAg (W (x3+x8)) (xHi x3 x8) r2.2) (xAa r3),2≤Ln r2.2,Ln r3=Ln r2.2]:=by kernel_rfl
def xJ4(x2 x3 x8 g004 r1):rS 2 xDq (xC8 x2 x3 x8 g004) [F,F,F,Y] [xAc r1]=dn (xAu r1.2) [xJl x8 x2,iN (xLU x8 x2),iN false,AbC 20 (xAU (W (x3+x8)) (xHi x3 x8) g004) (xAc r1),iY (!r1.1)]:=by kernel_rfl
def xJ5(x2 x3 x8 g004 r1 r2):rS 2 xDq (xC8 x2 x3 x8 g004) [F,F,F,F] [xAc r1,xAa r2]=st 2 xDq (xC8 x2 x3 (xJF x8) r2) [xJl x8 x2,iN (xLU x8 x2),iN false,AbC 20 (xAU (W (x3+x8)) (xHi x3 x8) g004) (xAc r1),iN (!r1.1),AbC 62 (xAg (W (x3+x8)) (xHi x3 x8) r1.2) (xAa r2),2≤Ln r1.2,Ln r2=Ln r1.2]:=by kernel_rfl
def xJ6(a0 a1 a2 a3):rE xDq (xBC a0 a1 a2 a3) [] []=st 2 xDq (xC8 a1 a2 a0 a3) []:=by kernel_rfl
theorem xLK{N:Nat}:∀n x2 x3 x8 g004 r,xAP N n x2 x3 x8 g004=some r→RS Tryz.f80 xDq 2 (xC8 x2 x3 x8 g004) (xAu r):=by
 intro n
 induction n with
 |zero=>exact fun _ _ _ _ _ h=>nE h
 |succ n ih=>
  exact fun x2 x3 x8 g004 r h=>cE h (fun h0 h=>dS h xEt (xJZ x2 x3 x8 g004) (oc h0 on)) fun h0 h=>cE h (fun h1 h=>bE h fun r1 h2 h=>cE h (fun h3 h=>bE h fun r2 h4 h=>cE h (fun h5 h=>dS h xEt (xJ0 x2 x3 x8 g004 r1 r2) (oc6 h0 h1 (xAi h2) h3 (xAi h4) h5 on)) fun h5 h=>bE h fun r3 h6 h=>iE h fun h7 h=>iE h fun h8 h=>tS xEt (xJ1 x2 x3 x8 g004 r1 r2 r3) (oc9 h0 h1 (xAi h2) h3 (xAi h4) h5 (xAh h6) h7 h8 on) (ih _ _ _ _ _ h)) fun h3 h=>bE h fun r2 h4 h=>cE h (fun h5 h=>dS h xEt (xJ2 x2 x3 x8 g004 r1 r2) (oc6 h0 h1 (xAi h2) h3 (xAi h4) h5 on)) fun h5 h=>bE h fun r3 h6 h=>iE h fun h7 h=>iE h fun h8 h=>tS xEt (xJ3 x2 x3 x8 g004 r1 r2 r3) (oc9 h0 h1 (xAi h2) h3 (xAi h4) h5 (xAh h6) h7 h8 on) (ih _ _ _ _ _ h)) fun h1 h=>bE h fun r1 h3 h=>cE h (fun h4 h=>dS h xEt (xJ4 x2 x3 x8 g004 r1) (oc5 h0 h1 rfl (xAi h3) h4 on)) fun h4 h=>bE h fun r2 h5 h=>iE h fun h6 h=>iE h fun h7 h=>tS xEt (xJ5 x2 x3 x8 g004 r1 r2) (oc8 h0 h1 rfl (xAi h3) h4 (xAh h5) h6 h7 on) (ih _ _ _ _ _ h)
theorem xLL{N:Nat}:∀a0 a1 a2 a3 r,xBd N a0 a1 a2 a3=some r→RE Tryz.f80 xDq (xBC a0 a1 a2 a3) (xAu r):=fun a0 a1 a2 a3 r h=>tE xEt (xJ6 a0 a1 a2 a3) on (xLK _ _ _ _ _ _ h)
theorem xDc{N:Nat}{a0:Int}{a1:Int}{a2:Int}{a3:List Org}{r:(List Org)}(h:xBd N  a0 a1 a2 a3=some r):AbC 80 (xBC a0 a1 a2 a3) (xAu r):=
 AbsCalls.of_reach xEt rfl rfl rfl (jL rfl) (xLL a0 a1 a2 a3 r h)
noncomputable def xEs:Info:= { body:=(Tryz.f66.body).getD .skip,nt:=45,results:=[],keep:=[0,2,4,6,12,14,16,18,20,38,60,2000006,7,2000007],live:=[(5,[6,12,14,16,18,2000006,7,2000007]),(9,[6,12,14,20,2000006,7,2000007])],modes:=[(12,[(1,.take,false)])],ext:=[1000003] }
theorem xGK:FnOk Tryz.prog 66 Tryz.f66 xEs:=by refine⟨Tryz.func66,?_,?_,?_,?_⟩<;>kernel_rfl
def xGH(x6 x7 x8 x9:Int)(g003:List Org):St:=[(6,.v false [.ptr 3 0]),(12,.v false [.int .i64 x6]),(14,.v false [.int .i64 x7]),(16,.v false [.int .i64 x8]),(18,.v false [.int .i64 x9]),(7,.v true [.clo 20 [1000003],.swp 62 0 (.pointer (some ⟨3,41,none⟩)) 1000003]),(2000007,.v true [.sl (.lnt 0) .org g003])]
def xGI(x6 x7 x10:Int)(g003:List Org):St:=[(6,.v false [.ptr 3 0]),(12,.v false [.int .i64 x6]),(14,.v false [.int .i64 x7]),(20,.v false [.int .i64 x10]),(7,.v true [.clo 20 [1000003],.swp 62 0 (.pointer (some ⟨3,41,none⟩)) 1000003]),(2000007,.v true [.sl (.lnt 0) .org g003])]
def xLd(x6 x7 x10 g003 r1 r2):rS 9 xEs (xGI x6 x7 x10 g003) [Y] [xAa r1,cl (xAu r2)]=st 9 xEs (xGI x6 x7 (W (x10 - 1)) r2) [iY (dc (x10≥0)),AbC 62 (xAg x6 (W (x6+x10)) g003) (xAa r1),2≤Ln g003,Ln r1=Ln g003,AbC 80 (xBC x7 x10 x6 r1) (xAu r2)]:=by kernel_rfl
def xLe(x6 x7 x10 g003):rS 9 xEs (xGI x6 x7 x10 g003) [F] []=dn (xAZ g003) [iN (dc (x10≥0))]:=by kernel_rfl
def xLb(x6 x7 x8 x9 g003 r1):rS 5 xEs (xGH x6 x7 x8 x9 g003) [Y] [cl (xAu r1)]=st 5 xEs (xGH x6 x7 x8 (W (x9 - 1)) r1) [iY (dc (x9≥0)),AbC 80 (xBC x9 x8 x6 g003) (xAu r1)]:=by kernel_rfl
def xLc(x6 x7 x8 x9 g003):rS 5 xEs (xGH x6 x7 x8 x9 g003) [F] []=st 9 xEs (xGI x6 x7 (W (x8 - 1)) g003) [iN (dc (x9≥0))]:=by kernel_rfl
def xLf(a0 a1 a2):rE xEs (xBV a0 a1 a2) [] []=st 5 xEs (xGH a0 0 (W (a1 - a0)) (W (Int.tdiv (W ((W (a1 - a0)) - 1)) 2)) a2) [2≠(0:Int)]:=by kernel_rfl
theorem xMV{N:Nat}:∀n x6 x7 x10 g003 r,xBh N n x6 x7 x10 g003=some r→RS Tryz.f66 xEs 9 (xGI x6 x7 x10 g003) (xAZ r):=by
 intro n
 induction n with
 |zero=>exact fun _ _ _ _ _ h=>nE h
 |succ n ih=>
  exact fun x6 x7 x10 g003 r h=>cE h (fun h0 h=>bE h fun r1 h1 h=>iE h fun h2 h=>iE h fun h3 h=>bE h fun r2 h4 h=>tS xGK (xLd x6 x7 x10 g003 r1 r2) (oc5 h0 (xAh h1) h2 h3 (xDc h4) on) (ih _ _ _ _ _ h)) fun h0 h=>dS h xGK (xLe x6 x7 x10 g003) (oc h0 on)
theorem xMU{N:Nat}:∀n x6 x7 x8 x9 g003 r,xBg N n x6 x7 x8 x9 g003=some r→RS Tryz.f66 xEs 5 (xGH x6 x7 x8 x9 g003) (xAZ r):=by
 intro n
 induction n with
 |zero=>exact fun _ _ _ _ _ _ h=>nE h
 |succ n ih=>
  exact fun x6 x7 x8 x9 g003 r h=>cE h (fun h0 h=>bE h fun r1 h1 h=>tS xGK (xLb x6 x7 x8 x9 g003 r1) (oc2 h0 (xDc h1) on) (ih _ _ _ _ _ _ h)) fun h0 h=>tS xGK (xLc x6 x7 x8 x9 g003) (oc h0 on) (xMV _ _ _ _ _ _ h)
theorem xMW{N:Nat}:∀a0 a1 a2 r,xBJ N a0 a1 a2=some r→RE Tryz.f66 xEs (xBV a0 a1 a2) (xAZ r):=fun a0 a1 a2 r h=>tE xGK (xLf a0 a1 a2) (oc (by decide) on) (xMU _ _ _ _ _ _ _ h)
theorem xEH{N:Nat}{a0:Int}{a1:Int}{a2:List Org}{r:(List Org)}(h:xBJ N  a0 a1 a2=some r):AbC 66 (xBV a0 a1 a2) (xAZ r):=
 AbsCalls.of_reach xGK rfl rfl rfl (jL rfl) (xMW a0 a1 a2 r h)
noncomputable def xDJ:Info:= { body:=(Tryz.f65.body).getD .skip,nt:=35,results:=[],keep:=[0,2,4,6,12,14,24,52,2000006,7,2000007],live:=[(2,[2,4,6,12,2000006,7,2000007]),(5,[2,4,6,12,14,2000006,7,2000007])],modes:=[(5,[(3,.take,false)])],ext:=[1000003] }
theorem xGa:FnOk Tryz.prog 65 Tryz.f65 xDJ:=by refine⟨Tryz.func65,?_,?_,?_,?_⟩<;>kernel_rfl
def xFk(x1 x2 x6:Int)(g003:List Org):St:=[(2,.v false [.int .i64 x1]),(4,.v false [.int .i64 x2]),(6,.v false [.ptr 3 0]),(12,.v false [.int .i64 x6]),(7,.v true [.clo 20 [1000003],.swp 62 0 (.pointer (some ⟨3,41,none⟩)) 1000003]),(2000007,.v true [.sl (.lnt 0) .org g003])]
def xF4(x1 x2 x6 x7:Int)(g003:List Org):St:=[(2,.v false [.int .i64 x1]),(4,.v false [.int .i64 x2]),(6,.v false [.ptr 3 0]),(12,.v false [.int .i64 x6]),(14,.v false [.int .i64 x7]),(7,.v true [.clo 20 [1000003],.swp 62 0 (.pointer (some ⟨3,41,none⟩)) 1000003]),(2000007,.v true [.sl (.lnt 0) .org g003])]
def xK7(x1 x2 x6 x7 g003 r1 r2):rS 5 xDJ (xF4 x1 x2 x6 x7 g003) [Y,Y] [xAc r1,xAa r2]=st 5 xDJ (xF4 x1 x2 x6 (W (x7 - 1)) r2) [iY (dc (x7>x1)),xK1 x7 g003 r1,iY r1.1,AbC 62 (xAg x7 (W (x7 - 1)) r1.2) (xAa r2),2≤Ln r1.2,Ln r2=Ln r1.2]:=by kernel_rfl
def xK8(x1 x2 x6 x7 g003 r1):rS 5 xDJ (xF4 x1 x2 x6 x7 g003) [Y,F] [xAc r1]=st 2 xDJ (xFk x1 x2 (W (x6+1)) r1.2) [iY (dc (x7>x1)),xK1 x7 g003 r1,iN r1.1]:=by kernel_rfl
def xK9(x1 x2 x6 x7 g003):rS 5 xDJ (xF4 x1 x2 x6 x7 g003) [F,F] []=st 2 xDJ (xFk x1 x2 (W (x6+1)) g003) [iN (dc (x7>x1)),iN false]:=by kernel_rfl
def xK5(x1 x2 x6 g003):rS 2 xDJ (xFk x1 x2 x6 g003) [Y] []=st 5 xDJ (xF4 x1 x2 x6 x6 g003) [xDm x6 x2]:=by kernel_rfl
def xK6(x1 x2 x6 g003):rS 2 xDJ (xFk x1 x2 x6 g003) [F] []=dn (xAF g003) [xE1 x6 x2]:=by kernel_rfl
def xLa(a0 a1 a2):rE xDJ (xBF a0 a1 a2) [] []=st 2 xDJ (xFk a0 a1 (W (a0+1)) a2) []:=by kernel_rfl
theorem xMS{N:Nat}{k2:Int→Int→Int→(List Org)→Option ((List Org))}(hk2:∀z0 z1 z2 z3 r,k2 z0 z1 z2 z3=some r→RS Tryz.f65 xDJ 2 (xFk z0 z1 z2 z3) (xAF r)):∀n x1 x2 x6 x7 g003 r,xAY N k2 n x1 x2 x6 x7 g003=some r→RS Tryz.f65 xDJ 5 (xF4 x1 x2 x6 x7 g003) (xAF r):=by
 intro n
 induction n with
 |zero=>exact fun _ _ _ _ _ _ h=>nE h
 |succ n ih=>
  exact fun x1 x2 x6 x7 g003 r h=>cE h (fun h0 h=>bE h fun r1 h1 h=>cE h (fun h2 h=>bE h fun r2 h3 h=>iE h fun h4 h=>iE h fun h5 h=>tS xGa (xK7 x1 x2 x6 x7 g003 r1 r2) (oc6 h0 (xAi h1) h2 (xAh h3) h4 h5 on) (ih _ _ _ _ _ _ h)) fun h2 h=>tS xGa (xK8 x1 x2 x6 x7 g003 r1) (oc3 h0 (xAi h1) h2 on) (hk2 _ _ _ _ _ h)) fun h0 h=>tS xGa (xK9 x1 x2 x6 x7 g003) (oc2 h0 rfl on) (hk2 _ _ _ _ _ h)
theorem xMR{N:Nat}:∀n x1 x2 x6 g003 r,xAX N n x1 x2 x6 g003=some r→RS Tryz.f65 xDJ 2 (xFk x1 x2 x6 g003) (xAF r):=by
 intro n
 induction n with
 |zero=>exact fun _ _ _ _ _ h=>nE h
 |succ n ih=>
  exact fun x1 x2 x6 g003 r h=>cE h (fun h0 h=>tS xGa (xK5 x1 x2 x6 g003) (oc h0 on) (xMS ih _ _ _ _ _ _ _ h)) fun h0 h=>dS h xGa (xK6 x1 x2 x6 g003) (oc h0 on)
theorem xMT{N:Nat}:∀a0 a1 a2 r,xBr N a0 a1 a2=some r→RE Tryz.f65 xDJ (xBF a0 a1 a2) (xAF r):=fun a0 a1 a2 r h=>tE xGa (xLa a0 a1 a2) on (xMR _ _ _ _ _ _ h)
theorem xD8{N:Nat}{a0:Int}{a1:Int}{a2:List Org}{r:(List Org)}(h:xBr N  a0 a1 a2=some r):AbC 65 (xBF a0 a1 a2) (xAF r):=
 AbsCalls.of_reach xGa rfl rfl rfl (jL rfl) (xMT a0 a1 a2 r h)
def xGq(q:Int→Int→Int→(List Org)→Option ((List Org))):Prop:=∀a0 a1 a2 a3 r,q a0 a1 a2 a3=some r→AbC 38 (xA5 a0 a1 a2 a3) (xAj r)
noncomputable def xBs:Info:= { body:=(Tryz.f38.body).getD .skip,nt:=130,results:=[],keep:=[0,2,4,6,8,16,18,20,22,24,26,28,30,32,34,36,46,58,70,100,136,144,166,218,2000008,9,2000009],live:=[(3,[2,4,6,8,16,18,2000008,9,2000009]),(11,[2,4,6,8,16,18,20,2000008,9,2000009]),(16,[2,4,6,8,16,18,20,22,24,2000008,9,2000009]),(18,[2,4,6,8,16,18,20,22,2000008,9,2000009]),(21,[2,4,6,8,20,22,2000008,9,2000009])],modes:=[(11,[(4,.take,false)]),(16,[(1,.take,false),(2,.take,false),(4,.take,false)]),(18,[(2,.take,false)]),(20,[(0,.take,false)]),(21,[(5,.take,false)]),(22,[(0,.take,false)])],ext:=[1000004] }
theorem xCN:FnOk Tryz.prog 38 Tryz.f38 xBs:=by refine⟨Tryz.func38,?_,?_,?_,?_⟩<;>kernel_rfl
def xDi(x1 x2 x3:Int)(x8 x9:Bool)(g004:List Org):St:=[(2,.v false [.int .i64 x1]),(4,.v false [.int .i64 x2]),(6,.v false [.int .i64 x3]),(8,.v false [.ptr 4 0]),(16,.v false [.bool x8]),(18,.v false [.bool x9]),(9,.v true [.clo 20 [1000004],.swp 62 0 (.pointer (some ⟨3,41,none⟩)) 1000004]),(2000009,.v true [.sl (.lnt 0) .org g004])]
def xF7(x1 x2 x3:Int)(x8 x9:Bool)(x10:Int)(g004:List Org):St:=[(2,.v false [.int .i64 x1]),(4,.v false [.int .i64 x2]),(6,.v false [.int .i64 x3]),(8,.v false [.ptr 4 0]),(16,.v false [.bool x8]),(18,.v false [.bool x9]),(20,.v false [.int .i64 x10]),(9,.v true [.clo 20 [1000004],.swp 62 0 (.pointer (some ⟨3,41,none⟩)) 1000004]),(2000009,.v true [.sl (.lnt 0) .org g004])]
def xEl(x1 x2 x3:Int)(x8 x9:Bool)(x10 x11 x12:Int)(g004:List Org):St:=[(2,.v false [.int .i64 x1]),(4,.v false [.int .i64 x2]),(6,.v false [.int .i64 x3]),(8,.v false [.ptr 4 0]),(16,.v false [.bool x8]),(18,.v false [.bool x9]),(20,.v false [.int .i64 x10]),(22,.v false [.int .i64 x11]),(24,.v false [.int .i64 x12]),(9,.v true [.clo 20 [1000004],.swp 62 0 (.pointer (some ⟨3,41,none⟩)) 1000004]),(2000009,.v true [.sl (.lnt 0) .org g004])]
def xEm(x1 x2 x3:Int)(x8 x9:Bool)(x10 x11:Int)(g004:List Org):St:=[(2,.v false [.int .i64 x1]),(4,.v false [.int .i64 x2]),(6,.v false [.int .i64 x3]),(8,.v false [.ptr 4 0]),(16,.v false [.bool x8]),(18,.v false [.bool x9]),(20,.v false [.int .i64 x10]),(22,.v false [.int .i64 x11]),(9,.v true [.clo 20 [1000004],.swp 62 0 (.pointer (some ⟨3,41,none⟩)) 1000004]),(2000009,.v true [.sl (.lnt 0) .org g004])]
def xF8(x1 x2 x3 x10 x11:Int)(g004:List Org):St:=[(2,.v false [.int .i64 x1]),(4,.v false [.int .i64 x2]),(6,.v false [.int .i64 x3]),(8,.v false [.ptr 4 0]),(20,.v false [.int .i64 x10]),(22,.v false [.int .i64 x11]),(9,.v true [.clo 20 [1000004],.swp 62 0 (.pointer (some ⟨3,41,none⟩)) 1000004]),(2000009,.v true [.sl (.lnt 0) .org g004])]
def xKj(x1 x2 x3 x10 x11 g004 r1 r2):rS 21 xBs (xF8 x1 x2 x3 x10 x11 g004) [Y] [cl (xAn r1),cl (xAj r2)]=st 3 xBs (xDi (W (r1.1+1)) x2 x3 (dc ((W (r1.1 - x1))≥(W (Int.tdiv x10 8)))) r1.2.1 r2) [AbC 72 (xBt x1 x2 x11 g004) (xAn r1),8≠(0:Int),iY (dc ((W (r1.1 - x1))<(W (x2 - r1.1)))),AbC 38 (xA5 x1 r1.1 x3 r1.2.2) (xAj r2)]:=by kernel_rfl
def xKk(x1 x2 x3 x10 x11 g004 r1 r2):rS 21 xBs (xF8 x1 x2 x3 x10 x11 g004) [F] [cl (xAn r1),cl (xAj r2)]=st 3 xBs (xDi x1 r1.1 x3 (dc ((W (x2 - r1.1))≥(W (Int.tdiv x10 8)))) r1.2.1 r2) [AbC 72 (xBt x1 x2 x11 g004) (xAn r1),8≠(0:Int),iN (dc ((W (r1.1 - x1))<(W (x2 - r1.1)))),AbC 38 (xA5 (W (r1.1+1)) x2 x3 r1.2.2) (xAj r2)]:=by kernel_rfl
def xKg(x1 x2 x3 x8 x9 x10 x11 g004 r1 r2):rS 18 xBs (xEm x1 x2 x3 x8 x9 x10 x11 g004) [Y,Y] [xAc r1,cl (xAw r2)]=st 3 xBs (xDi r2.1 x2 x3 x8 x9 r2.2) [iY (dc (x1>0)),AbC 20 (xAU (W (x1 - 1)) x11 g004) (xAc r1),iY (!r1.1),AbC 71 (xBD x1 x2 x11 r1.2) (xAw r2)]:=by kernel_rfl
def xKh(x1 x2 x3 x8 x9 x10 x11 g004 r1):rS 18 xBs (xEm x1 x2 x3 x8 x9 x10 x11 g004) [Y,F] [xAc r1]=st 21 xBs (xF8 x1 x2 x3 x10 x11 r1.2) [iY (dc (x1>0)),AbC 20 (xAU (W (x1 - 1)) x11 g004) (xAc r1),iN (!r1.1)]:=by kernel_rfl
def xKi(x1 x2 x3 x8 x9 x10 x11 g004):rS 18 xBs (xEm x1 x2 x3 x8 x9 x10 x11 g004) [F,F] []=st 21 xBs (xF8 x1 x2 x3 x10 x11 g004) [iN (dc (x1>0)),iN false]:=by kernel_rfl
def xKb(x1 x2 x3 x8 x9 x10 x11 x12 g004 r1):rS 16 xBs (xEl x1 x2 x3 x8 x9 x10 x11 x12 g004) [Y,Y,Y,Y] [cl (xAd r1)]=dn (xAj r1.2) [iY x8,iY x9,iY (x12==1),AbC 70 (xAW x1 x2 g004) (xAd r1),iY r1.1]:=by kernel_rfl
def xKc(x1 x2 x3 x8 x9 x10 x11 x12 g004 r1):rS 16 xBs (xEl x1 x2 x3 x8 x9 x10 x11 x12 g004) [Y,Y,Y,F] [cl (xAd r1)]=st 18 xBs (xEm x1 x2 x3 x8 x9 x10 x11 r1.2) [iY x8,iY x9,iY (x12==1),AbC 70 (xAW x1 x2 g004) (xAd r1),iN r1.1]:=by kernel_rfl
def xKd(x1 x2 x3 x8 x9 x10 x11 x12 g004):rS 16 xBs (xEl x1 x2 x3 x8 x9 x10 x11 x12 g004) [Y,Y,F] []=st 18 xBs (xEm x1 x2 x3 x8 x9 x10 x11 g004) [iY x8,iY x9,iN (x12==1)]:=by kernel_rfl
def xKe(x1 x2 x3 x8 x9 x10 x11 x12 g004):rS 16 xBs (xEl x1 x2 x3 x8 x9 x10 x11 x12 g004) [Y,F,F] []=st 18 xBs (xEm x1 x2 x3 x8 x9 x10 x11 g004) [iY x8,iN x9,iN false]:=by kernel_rfl
def xKf(x1 x2 x3 x8 x9 x10 x11 x12 g004):rS 16 xBs (xEl x1 x2 x3 x8 x9 x10 x11 x12 g004) [F,F,F] []=st 18 xBs (xEm x1 x2 x3 x8 x9 x10 x11 g004) [iN x8,iN false,iN false]:=by kernel_rfl
def xI9(x1 x2 x3 x8 x9 x10 g004 r1 r2):rS 11 xBs (xF7 x1 x2 x3 x8 x9 x10 g004) [Y] [cl (xAm r1),cl (xA4 r2)]=st 16 xBs (xEl x1 x2 x3 x8 x9 x10 (W ((W (x2 - 1)) - (W (r1.1 - x1)))) 1 r2) [AbC 68 (xAp x1 x2 g004) (xAm r1),iY (r1.2.1==2),AbC 69 (xBH x1 x2 r1.2.2) (xA4 r2)]:=by kernel_rfl
def xJa(x1 x2 x3 x8 x9 x10 g004 r1):rS 11 xBs (xF7 x1 x2 x3 x8 x9 x10 g004) [F] [cl (xAm r1)]=st 16 xBs (xEl x1 x2 x3 x8 x9 x10 r1.1 r1.2.1 r1.2.2) [AbC 68 (xAp x1 x2 g004) (xAm r1),iN (r1.2.1==2)]:=by kernel_rfl
def xKl(x1 x2 x3 x8 x9 g004 r1):rS 3 xBs (xDi x1 x2 x3 x8 x9 g004) [Y] [cl (xAF r1)]=dn (xAj r1) [iY (dc ((W (x2 - x1))≤12)),AbC 65 (xBF x1 x2 g004) (xAF r1)]:=by kernel_rfl
def xKm(x1 x2 x3 x8 x9 g004 r1):rS 3 xBs (xDi x1 x2 x3 x8 x9 g004) [F,Y] [cl (xAZ r1)]=dn (xAj r1) [iN (dc ((W (x2 - x1))≤12)),iY (x3==0),AbC 66 (xBV x1 x2 g004) (xAZ r1)]:=by kernel_rfl
def xKn(x1 x2 x3 x8 x9 g004 r1):rS 3 xBs (xDi x1 x2 x3 x8 x9 g004) [F,F,Y] [cl (xAO r1)]=st 11 xBs (xF7 x1 x2 (W (x3 - 1)) x8 x9 (W (x2 - x1)) r1) [iN (dc ((W (x2 - x1))≤12)),iN (x3==0),iY (!x8),AbC 67 (xBj x1 x2 g004) (xAO r1)]:=by kernel_rfl
def xKo(x1 x2 x3 x8 x9 g004):rS 3 xBs (xDi x1 x2 x3 x8 x9 g004) [F,F,F] []=st 11 xBs (xF7 x1 x2 x3 x8 x9 (W (x2 - x1)) g004) [iN (dc ((W (x2 - x1))≤12)),iN (x3==0),iN (!x8)]:=by kernel_rfl
def xKp(a0 a1 a2 a3):rE xBs (xA5 a0 a1 a2 a3) [] []=st 3 xBs (xDi a0 a1 a2 true true a3) []:=by kernel_rfl
theorem xIv{N q0}(g0:xGq q0){k3:Int→Int→Int→Bool→Bool→(List Org)→Option ((List Org))}(hk3:∀z0 z1 z2 z3 z4 z5 r,k3 z0 z1 z2 z3 z4 z5=some r→RS Tryz.f38 xBs 3 (xDi z0 z1 z2 z3 z4 z5) (xAj r)):∀x1 x2 x3 x10 x11 g004 r,xBB N q0 k3 x1 x2 x3 x10 x11 g004=some r→RS Tryz.f38 xBs 21 (xF8 x1 x2 x3 x10 x11 g004) (xAj r):=fun x1 x2 x3 x10 x11 g004 r h=>bE h fun r1 h0 h=>cE h (fun h2 h=>bE h fun r2 h3 h=>tS xCN (xKj x1 x2 x3 x10 x11 g004 r1 r2) (oc4 (xC6 h0) (by decide) h2 (g0 _ _ _ _ _ h3) on) (hk3 _ _ _ _ _ _ _ h)) fun h2 h=>bE h fun r2 h3 h=>tS xCN (xKk x1 x2 x3 x10 x11 g004 r1 r2) (oc4 (xC6 h0) (by decide) h2 (g0 _ _ _ _ _ h3) on) (hk3 _ _ _ _ _ _ _ h)
theorem xGW{N q0}(g0:xGq q0){k3:Int→Int→Int→Bool→Bool→(List Org)→Option ((List Org))}(hk3:∀z0 z1 z2 z3 z4 z5 r,k3 z0 z1 z2 z3 z4 z5=some r→RS Tryz.f38 xBs 3 (xDi z0 z1 z2 z3 z4 z5) (xAj r)):∀x1 x2 x3 x8 x9 x10 x11 g004 r,xA0 N q0 k3 x1 x2 x3 x8 x9 x10 x11 g004=some r→RS Tryz.f38 xBs 18 (xEm x1 x2 x3 x8 x9 x10 x11 g004) (xAj r):=fun x1 x2 x3 x8 x9 x10 x11 g004 r h=>cE h (fun h0 h=>bE h fun r1 h1 h=>cE h (fun h2 h=>bE h fun r2 h3 h=>tS xCN (xKg x1 x2 x3 x8 x9 x10 x11 g004 r1 r2) (oc4 h0 (xAi h1) h2 (xD1 h3) on) (hk3 _ _ _ _ _ _ _ h)) fun h2 h=>tS xCN (xKh x1 x2 x3 x8 x9 x10 x11 g004 r1) (oc3 h0 (xAi h1) h2 on) (xIv g0 hk3 _ _ _ _ _ _ _ h)) fun h0 h=>tS xCN (xKi x1 x2 x3 x8 x9 x10 x11 g004) (oc2 h0 rfl on) (xIv g0 hk3 _ _ _ _ _ _ _ h)
theorem xIu{N q0}(g0:xGq q0){k3:Int→Int→Int→Bool→Bool→(List Org)→Option ((List Org))}(hk3:∀z0 z1 z2 z3 z4 z5 r,k3 z0 z1 z2 z3 z4 z5=some r→RS Tryz.f38 xBs 3 (xDi z0 z1 z2 z3 z4 z5) (xAj r)):∀x1 x2 x3 x8 x9 x10 x11 x12 g004 r,xBA N q0 k3 x1 x2 x3 x8 x9 x10 x11 x12 g004=some r→RS Tryz.f38 xBs 16 (xEl x1 x2 x3 x8 x9 x10 x11 x12 g004) (xAj r):=fun x1 x2 x3 x8 x9 x10 x11 x12 g004 r h=>cE h (fun h0 h=>cE h (fun h1 h=>cE h (fun h2 h=>bE h fun r1 h3 h=>cE h (fun h4 h=>dS h xCN (xKb x1 x2 x3 x8 x9 x10 x11 x12 g004 r1) (oc5 h0 h1 h2 (xCi h3) h4 on)) fun h4 h=>tS xCN (xKc x1 x2 x3 x8 x9 x10 x11 x12 g004 r1) (oc5 h0 h1 h2 (xCi h3) h4 on) (xGW g0 hk3 _ _ _ _ _ _ _ _ _ h)) fun h2 h=>tS xCN (xKd x1 x2 x3 x8 x9 x10 x11 x12 g004) (oc3 h0 h1 h2 on) (xGW g0 hk3 _ _ _ _ _ _ _ _ _ h)) fun h1 h=>tS xCN (xKe x1 x2 x3 x8 x9 x10 x11 x12 g004) (oc3 h0 h1 rfl on) (xGW g0 hk3 _ _ _ _ _ _ _ _ _ h)) fun h0 h=>tS xCN (xKf x1 x2 x3 x8 x9 x10 x11 x12 g004) (oc3 h0 rfl rfl on) (xGW g0 hk3 _ _ _ _ _ _ _ _ _ h)
theorem xIt{N q0}(g0:xGq q0){k3:Int→Int→Int→Bool→Bool→(List Org)→Option ((List Org))}(hk3:∀z0 z1 z2 z3 z4 z5 r,k3 z0 z1 z2 z3 z4 z5=some r→RS Tryz.f38 xBs 3 (xDi z0 z1 z2 z3 z4 z5) (xAj r)):∀x1 x2 x3 x8 x9 x10 g004 r,xBz N q0 k3 x1 x2 x3 x8 x9 x10 g004=some r→RS Tryz.f38 xBs 11 (xF7 x1 x2 x3 x8 x9 x10 g004) (xAj r):=fun x1 x2 x3 x8 x9 x10 g004 r h=>bE h fun r1 h0 h=>cE h (fun h1 h=>bE h fun r2 h2 h=>tS xCN (xI9 x1 x2 x3 x8 x9 x10 g004 r1 r2) (oc3 (xCY h0) h1 (xEh h2) on) (xIu g0 hk3 _ _ _ _ _ _ _ _ _ _ h)) fun h1 h=>tS xCN (xJa x1 x2 x3 x8 x9 x10 g004 r1) (oc2 (xCY h0) h1 on) (xIu g0 hk3 _ _ _ _ _ _ _ _ _ _ h)
theorem xMP{N q0}(g0:xGq q0):∀n x1 x2 x3 x8 x9 g004 r,xA6 N q0 n x1 x2 x3 x8 x9 g004=some r→RS Tryz.f38 xBs 3 (xDi x1 x2 x3 x8 x9 g004) (xAj r):=by
 intro n
 induction n with
 |zero=>exact fun _ _ _ _ _ _ _ h=>nE h
 |succ n ih=>
  exact fun x1 x2 x3 x8 x9 g004 r h=>cE h (fun h0 h=>bE h fun r1 h1 h=>dS h xCN (xKl x1 x2 x3 x8 x9 g004 r1) (oc2 h0 (xD8 h1) on)) fun h0 h=>cE h (fun h1 h=>bE h fun r1 h2 h=>dS h xCN (xKm x1 x2 x3 x8 x9 g004 r1) (oc3 h0 h1 (xEH h2) on)) fun h1 h=>cE h (fun h2 h=>bE h fun r1 h3 h=>tS xCN (xKn x1 x2 x3 x8 x9 g004 r1) (oc4 h0 h1 h2 (xD7 h3) on) (xIt g0 ih _ _ _ _ _ _ _ _ h)) fun h2 h=>tS xCN (xKo x1 x2 x3 x8 x9 g004) (oc3 h0 h1 h2 on) (xIt g0 ih _ _ _ _ _ _ _ _ h)
theorem xMQ{N q0}(g0:xGq q0):∀a0 a1 a2 a3 r,xCh N q0 a0 a1 a2 a3=some r→RE Tryz.f38 xBs (xA5 a0 a1 a2 a3) (xAj r):=fun a0 a1 a2 a3 r h=>tE xCN (xKp a0 a1 a2 a3) on (xMP g0 _ _ _ _ _ _ _ _ h)
theorem xEg{N q0}(g0:xGq q0){a0}{a1}{a2}{a3}{r}(h:xCh N q0 a0 a1 a2 a3=some r):AbC 38 (xA5 a0 a1 a2 a3) (xAj r):=
 AbsCalls.of_reach xCN rfl rfl rfl (jL rfl) (xMQ g0 a0 a1 a2 a3 r h)
theorem xCZ{N:Nat}:∀d,xGq (xA1 N d)
 |0=>fun _ _ _ _ _ h=>nE h
 |d+1=>fun _ _ _ _ _ h=>xEg (N:=N) (xCZ d) h
theorem sort_pdqsort_func_cUnionOrigins_1_ok{N:Nat}{a0:Int}{a1:Int}{a2:Int}{a3:List Org}{r:(List Org)}(h:xCI N a0 a1 a2 a3=some r):AbC 38 (xA5 a0 a1 a2 a3) (xAj r):=xCZ N _ _ _ _ r h
end Go.Ab.T
end
section
namespace Go.Ab
def Big(p:Nat→Prop):Prop:=∃k,∀N,k≤N→p N
def Big2(p:Nat→Nat→Prop):Prop:=∃k,∀N n,k≤N→k≤n→p N n
theorem Big.imp{p q:Nat→Prop}(h:Big p)(f:∀N,p N→q N):Big q:=h.elim fun k hk=>⟨k,fun N hN=>f N (hk N hN)⟩
theorem Big2.imp{p q:Nat→Nat→Prop}(h:Big2 p)(f:∀N n,p N n→q N n):Big2 q:=h.elim fun k hk=>⟨k,fun N n h1 h2=>f N n (hk N n h1 h2)⟩
theorem Big2.of{p:Nat→Nat→Prop}(h:∀N n,p N n):Big2 p:=⟨0,fun N n _ _=>h N n⟩
theorem Big.and{p q:Nat→Prop}(h:Big p)(h' :Big q):Big fun N=>p N∧q N:=by
 obtain⟨a,ha⟩:=h;obtain⟨b,hb⟩:=h'
 exact⟨max a b,fun N hN=>⟨ha N (by omega),hb N (by omega)⟩⟩
theorem Big2.and{p q:Nat→Nat→Prop}(h:Big2 p)(h' :Big2 q):Big2 fun N n=>p N n∧q N n:=by
 obtain⟨a,ha⟩:=h;obtain⟨b,hb⟩:=h'
 exact⟨max a b,fun N n h1 h2=>⟨ha N n (by omega) (by omega),hb N n (by omega) (by omega)⟩⟩
theorem Big.two{p:Nat→Prop}(h:Big p):Big2 fun N _=>p N:=h.elim fun k hk=>⟨k,fun N _ h _=>hk N h⟩
theorem Big2.diag{p:Nat→Nat→Prop}(h:Big2 p):Big fun N=>p N N:=h.elim fun k hk=>⟨k,fun N h=>hk N N h h⟩
theorem Big2.succ{p:Nat→Nat→Prop}(h:Big2 fun N n=>p N (n+1)):Big2 p:=by
 obtain⟨k,hk⟩:=h
 refine⟨k+1,fun N n h1 h2=> ?_⟩
 obtain⟨m,rfl⟩:∃m,n=m+1:=⟨n - 1,by omega⟩
 exact hk N m (by omega) (by omega)
theorem Big2.list{α:Type}{p:α→Nat→Nat→Prop}{l:List α}(h:∀x∈l,Big2 (p x)):Big2 fun N n=>∀x∈l,p x N n:=by
 induction l with
 |nil=>exact .of fun N n x hx=>by cases hx
 |cons a l ih=>
  refine((h a List.mem_cons_self).and (ih fun x hx=>h x (List.mem_cons_of_mem _ hx))).imp fun N n ⟨h1,h2⟩ x hx=> ?_
  rcases List.mem_cons.1 hx with rfl |hx
  ·exact h1
  ·exact h2 x hx
theorem Big.get{p:Nat→Prop}(h:Big p):∃N,p N:=h.elim fun k hk=>⟨k,hk k (Nat.le_refl k)⟩
def I64(x:Int):Prop:= -9223372036854775808≤x∧x≤9223372036854775807
theorem xLB(x:Int):IntKind.i64.wrap x=if x % 18446744073709551616≥9223372036854775808 then x % 18446744073709551616 - 18446744073709551616 else x % 18446744073709551616:=by
 show(if(true&&decide (x % 18446744073709551616≥9223372036854775808))=true then x % 18446744073709551616 - 18446744073709551616 else x % 18446744073709551616)=_
 simp only [Bool.true_and,decide_eq_true_eq]
theorem xEC{x:Int}(h1: -9223372036854775808≤x)(h2:x≤9223372036854775807):IntKind.i64.wrap x=x:=by
 rw [xLB]
 split <;>omega
theorem xNr{α:Type}{xs:List α}{i:Nat}{x:α}{l:List α}(h:xs.drop i=x::l):i<xs.length∧xs[i]? =some x∧xs.drop (i+1)=l:=by
 have h1:i<xs.length:=by
  rcases Nat.lt_or_ge i xs.length with h1 |h1
  ·exact h1
  ·rw [List.drop_eq_nil_of_le h1] at h;cases h
 rw [List.drop_eq_getElem_cons h1] at h
 cases h
 exact⟨h1,by simp [h1],rfl⟩
theorem xN2{α:Type}{xs:List α}{i:Nat}(h:xs.drop i=[]):xs.length≤i:=by simpa using h
end Go.Ab
end
section
open Go.IntKind
namespace Go.Ab
open Go.Sort
theorem xNP{a b:Org}:olt a b=true↔a.cell<b.cell∨(a.cell=b.cell∧a.row<b.row):=by
 unfold olt
 by_cases h1:a.cell<b.cell
 ·simp [h1]
 ·by_cases h2:a.cell=b.cell
  ·have:(a.cell==b.cell)=true:=by simpa using h2
   simp [this,h2]
  ·have:(a.cell==b.cell)=false:=by simpa using h2
   simp [h1,h2,this]
theorem xII{a b:Org}:olt a b=false↔b.cell<a.cell∨(a.cell=b.cell∧b.row≤a.row):=by
 rw [←Bool.not_eq_true,xNP]
 omega
theorem xGD:SWO olt where
 irrefl:=fun x=>xII.2 (by omega)
 trans:=fun x y z h1 h2=>by rw [xNP] at h1 h2 ⊢;omega
 ntrans:=fun x y z h1 h2=>by rw [xII] at h1 h2 ⊢;omega
theorem xJN(x y:Org)(h1:olt x y=false)(h2:olt y x=false):x=y:=by
 rw [xII] at h1 h2
 cases x;cases y
 simp at h1 h2 ⊢
 omega
theorem xIL(N:Nat)(a b:Org):xDl N a b=some (olt a b):=by
 unfold xDl olt
 by_cases h1:a.cell<b.cell
 ·simp [h1]
 ·cases h2:(a.cell==b.cell) <;>simp [h1]
theorem xMh{d:Array Org}{i:Nat}(hi:i<d.size):d.toList.getD (Int.toNat (i:Int)) Ty.org.dflt=d[i]! :=by
 rw [Int.toNat_natCast,List.getD_eq_getElem?_getD]
 simp [hi]
theorem xPI(N:Nat){i j:Nat}{d:Array Org}(hi:i<d.size)(hj:j<d.size):xAA N (i:Int) (j:Int) d.toList=some (olt d[i]! d[j]!,d.toList):=by
 unfold xAA
 rw [if_pos ⟨Int.natCast_nonneg _,by simpa using hi⟩,if_pos ⟨Int.natCast_nonneg _,by simpa using hj⟩,xIL,xMh hi,xMh hj]
 rfl
theorem xSy(N:Nat){i j:Nat}{d:Array Org}(hi:i<d.size)(hj:j<d.size):xAf N (i:Int) (j:Int) d.toList=some (swp d i j).toList:=by
 unfold xAf zJa
 rw [if_pos ⟨Int.natCast_nonneg _,by simpa using hi,Int.natCast_nonneg _,by simpa using hj⟩]
 rfl
theorem wn{x:Int}(n:Nat)(h:x=n)(hn:n<9223372036854775808):i64.wrap x=(n:Int):=by rw [h];exact xEC (by omega) (by omega)
theorem xDE{β:Type}(N:Nat){x y:Int}{i j:Nat}{d:Array Org}(hx:x=i)(hy:y=j)(hi:i<d.size)(hj:j<d.size)(k:Bool×List Org→Option β):
 Option.bind (xAA N x y d.toList) k=k (olt d[i]! d[j]!,d.toList):=by rw [hx,hy,xPI N hi hj];rfl
theorem xCP{β:Type}(N:Nat){x y:Int}{i j:Nat}{d:Array Org}(hx:x=i)(hy:y=j)(hi:i<d.size)(hj:j<d.size)(h2:2≤d.size)(k:List Org→Option β):
 (Option.bind (xAf N x y d.toList) fun r=>if 2≤List.length d.toList then if List.length r=List.length d.toList then k r else none else none)=k (swp d i j).toList:=by
 rw [hx,hy,xSy N hi hj]
 show(if 2≤List.length d.toList then if List.length (swp d i j).toList=List.length d.toList then k (swp d i j).toList else none else none)=_
 rw [if_pos (by simpa using h2),if_pos (by simp [swp])]
theorem xBK{d:Array Org}{i j:Nat}:(swp d i j).size=d.size:=by simp [swp]
theorem xGp(lt:Org→Org→Bool)(a:Nat):∀(j:Nat) (d:Array Org),(insInner lt a j d).size=d.size
 |0,d=>rfl
 |j+1,d=>by
  unfold insInner
  split
  ·rw [xGp lt a j,xBK]
  ·rfl
theorem ins5(N:Nat)(k:Int→Int→Int→List Org→Option (List Org)){a b i:Nat}(hi:i<4611686018427387904):∀(j n:Nat) (d:Array Org),j<d.size→2≤d.size→d.size<4611686018427387904→j<n→
 xAY N k n (a:Int) (b:Int) (i:Int) (j:Int) d.toList=k (a:Int) (b:Int) ((i+1:Nat):Int) (insInner olt a j d).toList
 |0,n,d,hj,h2,hs,hn=>by
  obtain⟨n,rfl⟩:∃m,n=m+1:=⟨n - 1,by omega⟩
  have e:(decide (((0:Nat):Int)>(a:Int)))=false:=decide_eq_false (by omega)
  rw [xAY,e,cond_false,wn (i+1) (by omega) (by omega)]
  rfl
 |j+1,n,d,hj,h2,hs,hn=>by
  obtain⟨n,rfl⟩:∃m,n=m+1:=⟨n - 1,by omega⟩
  rw [xAY,insInner]
  by_cases ha:j+1>a
  ·have e:(decide (((j+1:Nat):Int)>(a:Int)))=true:=decide_eq_true (by omega)
   rw [e,cond_true,wn (n:=j) (by omega) (by omega),xDE N rfl rfl hj (by omega)]
   dsimp only
   cases hl:olt d[j+1]! d[j]! with
   |true=>
    rw [jT,xCP N rfl rfl hj (by omega) h2,ins5 N k hi j n _ (by rw [xBK];omega) (by rw [xBK];exact h2) (by rw [xBK];exact hs) (by omega)]
    rw [if_pos (by simp [ha])]
   |false=>
    rw [jF,wn (i+1) (by omega) (by omega),if_neg (by simp)]
  ·have e:(decide (((j+1:Nat):Int)>(a:Int)))=false:=decide_eq_false (by omega)
   rw [e,cond_false,wn (i+1) (by omega) (by omega),if_neg (by simp [ha])]
theorem ins2(N:Nat){a b:Nat}:∀(m i n:Nat) (d:Array Org),b - i=m→b≤d.size→2≤d.size→d.size<4611686018427387904→i<4611686018427387904→m<n→d.size<N→
 xAX N n (a:Int) (b:Int) (i:Int) d.toList=some (insOuter olt a b i d).toList:=by
 intro m
 induction m with
 |zero=>
  intro i n d hm hb h2 hs hi hn hN
  obtain⟨n,rfl⟩:∃m,n=m+1:=⟨n - 1,by omega⟩
  have e:(decide ((i:Int)<(b:Int)))=false:=decide_eq_false (by omega)
  rw [xAX,e,cond_false,insOuter,if_neg (by omega)]
 |succ m ih=>
  intro i n d hm hb h2 hs hi hn hN
  obtain⟨n,rfl⟩:∃m,n=m+1:=⟨n - 1,by omega⟩
  have e:(decide ((i:Int)<(b:Int)))=true:=decide_eq_true (by omega)
  rw [xAX,e,cond_true,ins5 N _ hi i N d (by omega) h2 hs (by omega),insOuter,if_pos (by omega)]
  exact ih (i+1) n _ (by omega) (by rw [xGp];exact hb) (by rw [xGp];exact h2) (by rw [xGp];exact hs) (by omega) (by omega) (by rw [xGp];exact hN)
theorem xSH(N:Nat){a b:Nat}{d:Array Org}(hab:a≤b)(hb:b≤d.size)(h2:2≤d.size)(hs:d.size<1152921504606846976)(hN:d.size<N):
 xBr N (a:Int) (b:Int) d.toList=some (insertionSort olt d a b).toList:=by
 unfold xBr insertionSort
 rw [wn (a+1) (by omega) (by omega)]
 exact ins2 N _ _ N d rfl hb h2 (by omega) (by omega) (by omega) hN
theorem xSw(N:Nat){hi first:Nat}(x:Int):∀(m root n:Nat) (d:Array Org),hi - root=m→root≤hi→first+hi≤d.size→2≤d.size→d.size<1152921504606846976→m<n→
 xAP N n (hi:Int) (first:Int) (root:Int) d.toList=some (siftDown olt hi first root d).toList∧(siftDown olt hi first root d).size=d.size:=by
 intro m
 induction m using Nat.strongRecOn with
 |_ m ih=>
  intro root n d hm hr hf h2 hs hn
  obtain⟨n,rfl⟩:∃m,n=m+1:=⟨n - 1,by omega⟩
  have w1:i64.wrap (i64.wrap (2*(root:Int))+1)=((2*root+1:Nat):Int):=by
   have e:i64.wrap (2*(root:Int))=((2*root:Nat):Int):=wn _ (by omega) (by omega)
   rw [e];exact wn _ (by omega) (by omega)
  have w2:i64.wrap (((2*root+1:Nat):Int)+1)=((2*root+2:Nat):Int):=wn _ (by omega) (by omega)
  rw [xAP,siftDown,w1,w2]
  by_cases hc:2*root+1≥hi
  ·have e:(decide (((2*root+1:Nat):Int)≥(hi:Int)))=true:=decide_eq_true (by omega)
   rw [e,cond_true,dif_pos hc]
   exact⟨rfl,rfl⟩
  ·have e:(decide (((2*root+1:Nat):Int)≥(hi:Int)))=false:=decide_eq_false (by omega)
   rw [e,cond_false,dif_neg hc]
   have w3:i64.wrap ((first:Int)+((2*root+1:Nat):Int))=((first+(2*root+1):Nat):Int):=wn _ (by omega) (by omega)
   have w4:i64.wrap (((first+(2*root+1):Nat):Int)+1)=((first+(2*root+1)+1:Nat):Int):=wn _ (by omega) (by omega)
   have w5:i64.wrap ((first:Int)+(root:Int))=((first+root:Nat):Int):=wn _ (by omega) (by omega)
   rw [w3,w4,w5]
   have one:∀(c:Nat),c<hi→root<c→(Option.bind (xAA N ((first+root:Nat):Int) ((first+c:Nat):Int) d.toList) fun r2=>
    bif(!r2.1) then some r2.2 else
     Option.bind (xAf N ((first+root:Nat):Int) ((first+c:Nat):Int) r2.2) fun r3=>
     if 2≤List.length r2.2 then
     if List.length r3=List.length r2.2 then
     (xAP N n (hi:Int) (first:Int) (c:Int) r3)
     else none
     else none)=some (if !olt d[first+root]! d[first+c]! then d else siftDown olt hi first c (swp d (first+root) (first+c))).toList∧
    (if !olt d[first+root]! d[first+c]! then d else siftDown olt hi first c (swp d (first+root) (first+c))).size=d.size:=by
    intro c hc1 hc2
    rw [xDE N rfl rfl (by omega) (by omega)]
    dsimp only
    cases hl:olt d[first+root]! d[first+c]! with
    |false=>exact⟨rfl,rfl⟩
    |true=>
     have:=ih (hi - c) (by omega) c n (swp d (first+root) (first+c)) rfl (by omega) (by rw [xBK];exact hf) (by rw [xBK];exact h2) (by rw [xBK];exact hs) (by omega)
     rw [Bool.not_true,cond_false,xCP N rfl rfl (by omega) (by omega) h2]
     rw [xBK] at this
     exact this
   by_cases hd:2*root+1+1<hi
   ·have e:(decide (((2*root+2:Nat):Int)<(hi:Int)))=true:=decide_eq_true (by omega)
    have w6:i64.wrap ((first:Int)+((2*root+2:Nat):Int))=((first+(2*root+2):Nat):Int):=wn _ (by omega) (by omega)
    rw [e,cond_true,xDE N rfl rfl (by omega) (by omega),w6]
    dsimp only
    cases hl:olt d[first+(2*root+1)]! d[first+(2*root+1)+1]! with
    |true=>
     rw [jT]
     have:=one (2*root+2) (by omega) (by omega)
     rw [if_pos (by simp [hd]),dif_pos (by omega:2*root+2<hi)]
     exact this
    |false=>
     rw [jF]
     have:=one (2*root+1) (by omega) (by omega)
     rw [if_neg (by simp)]
     exact this
   ·have e:(decide (((2*root+2:Nat):Int)<(hi:Int)))=false:=decide_eq_false (by omega)
    rw [e,cond_false,if_neg (by simp [hd])]
    exact one (2*root+1) (by omega) (by omega)
end Go.Ab
end
section
open Go.IntKind
namespace Go.Ab
open Go.Sort
theorem xME(N:Nat){hi first root:Nat}{d:Array Org}(hr:root≤hi)(hf:first+hi≤d.size)(h2:2≤d.size)(hs:d.size<1152921504606846976)(hN:d.size<N):
 xBd N (root:Int) (hi:Int) (first:Int) d.toList=some (siftDown olt hi first root d).toList∧(siftDown olt hi first root d).size=d.size:=by
 unfold xBd
 exact xSw N 0 _ root N d rfl hr hf h2 hs (by omega)
theorem xSG(N:Nat){first:Nat}(z:Int):∀(k n:Nat) (d:Array Org),first+k≤d.size→2≤d.size→d.size<1152921504606846976→k<n→d.size<N→
 xBh N n (first:Int) 0 ((k:Int) - 1) d.toList=some (heapPop olt first k d).toList
 |0,n,d,hf,h2,hs,hn,hN=>by
  obtain⟨n,rfl⟩:∃m,n=m+1:=⟨n - 1,by omega⟩
  have e:(decide (((0:Nat):Int) - 1≥0))=false:=decide_eq_false (by omega)
  rw [xBh,e,cond_false]
  rfl
 |k+1,n,d,hf,h2,hs,hn,hN=>by
  obtain⟨n,rfl⟩:∃m,n=m+1:=⟨n - 1,by omega⟩
  have e:(decide (((k+1:Nat):Int) - 1≥0))=true:=decide_eq_true (by omega)
  have e1:((k+1:Nat):Int) - 1=(k:Int):=by omega
  have w:i64.wrap ((first:Int)+(k:Int))=((first+k:Nat):Int):=wn _ (by omega) (by omega)
  have w2:i64.wrap ((k:Int) - 1)=(k:Int) - 1:=xEC (by omega) (by omega)
  rw [xBh,e,cond_true,e1,w,xCP N rfl rfl (by omega) (by omega) h2,w2]
  obtain⟨s1,s2⟩:=xME N (hi:=k) (first:=first) (root:=0) (d:=swp d first (first+k)) (by omega) (by rw [xBK];omega) (by rw [xBK];exact h2) (by rw [xBK];exact hs) (by rw [xBK];exact hN)
  have s1:xBd N 0 (k:Int) (first:Int) (swp d first (first+k)).toList=_:=s1
  rw [s1,heapPop]
  exact xSG N z k n _ (by rw [s2,xBK];omega) (by rw [s2,xBK];exact h2) (by rw [s2,xBK];exact hs) (by omega) (by rw [s2,xBK];exact hN)
theorem xSF(N:Nat){first hi:Nat}:∀(k n:Nat) (d:Array Org),k≤hi+1→first+hi≤d.size→2≤d.size→d.size<1152921504606846976→k<n→d.size<N→
 xBg N n (first:Int) 0 (hi:Int) ((k:Int) - 1) d.toList=some (heapPop olt first hi (heapBuild olt hi first k d)).toList
 |0,n,d,hk,hf,h2,hs,hn,hN=>by
  obtain⟨n,rfl⟩:∃m,n=m+1:=⟨n - 1,by omega⟩
  have e:(decide (((0:Nat):Int) - 1≥0))=false:=decide_eq_false (by omega)
  have w2:i64.wrap ((hi:Int) - 1)=(hi:Int) - 1:=xEC (by omega) (by omega)
  rw [xBg,e,cond_false,w2]
  exact xSG N 0 hi N d hf h2 hs (by omega) hN
 |k+1,n,d,hk,hf,h2,hs,hn,hN=>by
  obtain⟨n,rfl⟩:∃m,n=m+1:=⟨n - 1,by omega⟩
  have e:(decide (((k+1:Nat):Int) - 1≥0))=true:=decide_eq_true (by omega)
  have e1:((k+1:Nat):Int) - 1=(k:Int):=by omega
  have w2:i64.wrap ((k:Int) - 1)=(k:Int) - 1:=xEC (by omega) (by omega)
  rw [xBg,e,cond_true,e1,w2]
  obtain⟨s1,s2⟩:=xME N (hi:=hi) (first:=first) (root:=k) (d:=d) (by omega) hf h2 hs hN
  rw [s1,heapBuild]
  exact xSF N k n _ (by omega) (by rw [s2];exact hf) (by rw [s2];exact h2) (by rw [s2];exact hs) (by omega) (by rw [s2];exact hN)
theorem xPG(N:Nat){a b:Nat}{d:Array Org}(hab:a<b)(hb:b≤d.size)(h2:2≤d.size)(hs:d.size<1152921504606846976)(hN:d.size+1<N):
 xBJ N (a:Int) (b:Int) d.toList=some (heapSort olt d a b).toList:=by
 unfold xBJ heapSort
 have w1:i64.wrap ((b:Int) - (a:Int))=((b - a:Nat):Int):=wn _ (by omega) (by omega)
 have w2:i64.wrap (((b - a:Nat):Int) - 1)=((b - a - 1:Nat):Int):=wn _ (by omega) (by omega)
 have w3:i64.wrap (Int.tdiv ((b - a - 1:Nat):Int) 2)=(((b - a - 1) / 2+1:Nat):Int) - 1:=by
  have:Int.tdiv ((b - a - 1:Nat):Int) 2=(((b - a - 1) / 2:Nat):Int):=rfl
  rw [this,wn ((b - a - 1) / 2) rfl (by omega)]
  omega
 rw [w1,w2,w3]
 exact xSF N _ N d (by omega) (by omega) h2 hs (by omega) (by omega)
theorem rev3(N:Nat):∀(m i j n:Nat) (d:Array Org),j - i≤m→i<d.size→j<d.size→2≤d.size→d.size<1152921504606846976→m<n→
 xA3 N n (i:Int) (j:Int) d.toList=some (reverseLoop i j d).toList:=by
 intro m
 induction m with
 |zero=>
  intro i j n d hm hi hj h2 hs hn
  obtain⟨n,rfl⟩:∃m,n=m+1:=⟨n - 1,by omega⟩
  have e:(decide ((i:Int)<(j:Int)))=false:=decide_eq_false (by omega)
  rw [xA3,e,cond_false,reverseLoop,if_neg (by omega)]
 |succ m ih=>
  intro i j n d hm hi hj h2 hs hn
  obtain⟨n,rfl⟩:∃m,n=m+1:=⟨n - 1,by omega⟩
  rw [xA3,reverseLoop]
  by_cases h:i<j
  ·have e:(decide ((i:Int)<(j:Int)))=true:=decide_eq_true (by omega)
   have w1:i64.wrap ((i:Int)+1)=((i+1:Nat):Int):=wn _ (by omega) (by omega)
   have w2:i64.wrap ((j:Int) - 1)=((j - 1:Nat):Int):=wn _ (by omega) (by omega)
   rw [e,cond_true,xCP N rfl rfl hi hj h2,if_pos h,w1,w2]
   exact ih (i+1) (j - 1) n _ (by omega) (by rw [xBK];omega) (by rw [xBK];omega) (by rw [xBK];exact h2) (by rw [xBK];exact hs) (by omega)
  ·have e:(decide ((i:Int)<(j:Int)))=false:=decide_eq_false (by omega)
   rw [e,cond_false,if_neg h]
theorem xTf(N:Nat){a b:Nat}{d:Array Org}(hab:a<b)(hb:b≤d.size)(h2:2≤d.size)(hs:d.size<1152921504606846976)(hN:d.size<N):
 xBu N (a:Int) (b:Int) d.toList=some (reverseRange d a b).toList:=by
 unfold xBu reverseRange
 have w2:i64.wrap ((b:Int) - 1)=((b - 1:Nat):Int):=wn _ (by omega) (by omega)
 rw [w2]
 exact rev3 N _ a (b - 1) N d (Nat.le_refl _) (by omega) (by omega) h2 hs (by omega)
theorem xHp{p:Org→Bool}{d:Array Org}{j i:Nat}(h:i≤j)(hp:p d[i]! =true):scanUp p d j i=scanUp p d j (i+1):=by
 rw [scanUp,if_pos (by simp [h,hp])]
theorem xE0{p:Org→Bool}{d:Array Org}{j i:Nat}(h:¬(i≤j∧p d[i]! =true)):scanUp p d j i=i:=by
 rw [scanUp,if_neg (by simpa using h)]
theorem xGk{p:Org→Bool}{d:Array Org}{j i:Nat}(h:i≤j+1)(hp:p d[j+1]! =true):scanDown p d i (j+1)=scanDown p d i j:=by
 rw [scanDown,if_pos (by simp [h,hp])]
theorem xDS{p:Org→Bool}{d:Array Org}{j i:Nat}(h:¬(i≤j+1∧p d[j+1]! =true)):scanDown p d i (j+1)=j+1:=by
 rw [scanDown,if_neg (by simpa using h)]
abbrev pUp(d:Array Org)(a:Nat):Org→Bool:=fun x=>olt x d[a]!
abbrev pDn(d:Array Org)(a:Nat):Org→Bool:=fun x=> !olt x d[a]!
theorem xLA{p:Org→Bool}{d:Array Org}:∀(m i j:Nat),j+1 - i=m→i≤j+1→i≤scanUp p d j i∧scanUp p d j i≤j+1:=by
 intro m
 induction m with
 |zero=>intro i j hm hi;rw [xE0 (by omega)];omega
 |succ m ih=>
  intro i j hm hi
  by_cases h:i≤j∧p d[i]! =true
  ·rw [xHp h.1 h.2]
   have:=ih (i+1) j (by omega) (by omega)
   omega
  ·rw [xE0 h];omega
theorem xFA{p:Org→Bool}{d:Array Org}{i:Nat}(hi:0<i):∀(j:Nat),i≤j+1→i≤scanDown p d i j+1∧scanDown p d i j≤j
 |0,h=>by simp [scanDown];omega
 |j+1,h=>by
  by_cases h2:i≤j+1∧p d[j+1]! =true
  ·rw [xGk h2.1 h2.2]
   have:=xFA (p:=p) (d:=d) hi j (by omega)
   omega
  ·rw [xDS h2];omega
theorem xF1{p:Org→Bool}{d:Array Org}{i:Nat}(hi:0<i):∀(j:Nat),i≤j+1→i≤scanDown p d i j→p d[scanDown p d i j]! =false
 |0,h,h3=>by simp [scanDown] at h3;omega
 |j+1,h,h3=>by
  by_cases h2:i≤j+1∧p d[j+1]! =true
  ·rw [xGk h2.1 h2.2] at h3 ⊢
   exact xF1 hi j (by omega) h3
  ·rw [xDS h2] at h3 ⊢
   cases hp:p d[j+1]! with
   |false=>rfl
   |true=>exact absurd ⟨h3,hp⟩ h2
theorem xMc{p:Org→Bool}{d:Array Org}:∀(m i j:Nat),j+1 - i=m→scanUp p d j i≤j→p d[scanUp p d j i]! =false:=by
 intro m
 induction m with
 |zero=>intro i j hm h;rw [xE0 (by omega)] at h;omega
 |succ m ih=>
  intro i j hm h
  by_cases h2:i≤j∧p d[i]! =true
  ·rw [xHp h2.1 h2.2] at h ⊢
   exact ih (i+1) j (by omega) h
  ·rw [xE0 h2] at h ⊢
   cases hp:p d[i]! with
   |false=>rfl
   |true=>exact absurd ⟨h,hp⟩ h2
theorem xPA(N:Nat)(k:Int→Int→Int→List Org→Option (Int×Bool×List Org)){a i:Nat}:∀(j n:Nat) (d:Array Org),a<i→i≤j+1→j<d.size→2≤d.size→d.size<1152921504606846976→j<n→
 xAI N k n (a:Int) (i:Int) (j:Int) d.toList=
  (if i>scanDown (pDn d a) d i j then some (((scanDown (pDn d a) d i j:Nat):Int),false,(swp d (scanDown (pDn d a) d i j) a).toList)
   else k (a:Int) ((i+1:Nat):Int) ((scanDown (pDn d a) d i j - 1:Nat):Int) (swp d i (scanDown (pDn d a) d i j)).toList)
 |0,n,d,ha,hij,hj,h2,hs,hn=>by
  obtain⟨n,rfl⟩:∃m,n=m+1:=⟨n - 1,by omega⟩
  have e:(decide ((i:Int)≤((0:Nat):Int)))=false:=decide_eq_false (by omega)
  have e2:(decide ((i:Int)>((0:Nat):Int)))=true:=decide_eq_true (by omega)
  rw [xAI,e,cond_false,e2,cond_true,xCP N rfl rfl hj (by omega) h2,scanDown,if_pos (by omega)]
 |j+1,n,d,ha,hij,hj,h2,hs,hn=>by
  obtain⟨n,rfl⟩:∃m,n=m+1:=⟨n - 1,by omega⟩
  have wi:i64.wrap ((i:Int)+1)=((i+1:Nat):Int):=wn _ (by omega) (by omega)
  have wj:i64.wrap (((j+1:Nat):Int) - 1)=((j:Nat):Int):=wn _ (by omega) (by omega)
  rw [xAI,wi,wj]
  by_cases h:i≤j+1
  ·have e:(decide ((i:Int)≤((j+1:Nat):Int)))=true:=decide_eq_true (by omega)
   have e2:(decide ((i:Int)>((j+1:Nat):Int)))=false:=decide_eq_false (by omega)
   rw [e,cond_true,xDE N rfl rfl hj (by omega),e2,cond_false]
   dsimp only
   cases hl:olt d[j+1]! d[a]! with
   |false=>
    rw [Bool.not_false,cond_true,xPA N k j n d ha (by omega) (by omega) h2 hs (by omega),xGk (p:=pDn d a) h (by simp [pDn,hl])]
   |true=>
    rw [Bool.not_true,cond_false,xCP N rfl rfl (by omega) hj h2,xDS (p:=pDn d a) (by simp [pDn,hl]),if_neg (by omega)]
    rfl
  ·have e:(decide ((i:Int)≤((j+1:Nat):Int)))=false:=decide_eq_false (by omega)
   have e2:(decide ((i:Int)>((j+1:Nat):Int)))=true:=decide_eq_true (by omega)
   rw [e,cond_false,e2,cond_true,xCP N rfl rfl hj (by omega) h2,xDS (p:=pDn d a) (by omega),if_pos (by omega)]
theorem xS8(N:Nat){a:Nat}:∀(m i j n:Nat) (d:Array Org),j+1 - i=m→a<i→i≤j+1→j<d.size→2≤d.size→d.size<1152921504606846976→m<n→d.size<N→
 xAy N n (a:Int) (i:Int) (j:Int) d.toList=some (((partLoop olt a i j d).1:Int),false,(swp (partLoop olt a i j d).2 (partLoop olt a i j d).1 a).toList):=by
 intro m
 induction m using Nat.strongRecOn with
 |_ m ih=>
  intro i j n d hm ha hij hj h2 hs hn hN
  obtain⟨n,rfl⟩:∃m,n=m+1:=⟨n - 1,by omega⟩
  have wi:i64.wrap ((i:Int)+1)=((i+1:Nat):Int):=wn _ (by omega) (by omega)
  rw [xAy,wi]
  have stop:∀(hc:¬(i≤j∧pUp d a d[i]! =true)),xAI N (fun z0 z1 z2 z3=>(xAy N n z0 z1 z2 z3)) N (a:Int) (i:Int) (j:Int) d.toList=
   some (((partLoop olt a i j d).1:Int),false,(swp (partLoop olt a i j d).2 (partLoop olt a i j d).1 a).toList):=by
   intro hc
   rw [xPA N _ j N d ha hij hj h2 hs (by omega),partLoop_eq,xE0 (p:=pUp d a) hc]
   have hb:=xFA (p:=pDn d a) (d:=d) (by omega:0<i) j hij
   split
   ·rfl
   ·rename_i hg
    have hne:i≠scanDown (pDn d a) d i j:=by
     intro e
     have h1:=xF1 (p:=pDn d a) (d:=d) (by omega:0<i) j hij (by omega)
     rw [←e] at h1
     have h2:pUp d a d[i]! =true:=by simpa [pDn,pUp] using h1
     exact hc ⟨by omega,h2⟩
    exact ih (scanDown (pDn d a) d i j - 1+1 - (i+1)) (by omega) (i+1) (scanDown (pDn d a) d i j - 1) n _ rfl (by omega) (by omega) (by rw [xBK];omega) (by rw [xBK];exact h2) (by rw [xBK];exact hs) (by omega) (by rw [xBK];exact hN)
  by_cases h:i≤j
  ·have e:(decide ((i:Int)≤(j:Int)))=true:=decide_eq_true (by omega)
   rw [e,cond_true,xDE N rfl rfl (by omega) (by omega)]
   dsimp only
   cases hl:olt d[i]! d[a]! with
   |true=>
    rw [jT,ih (m - 1) (by omega) (i+1) j n d (by omega) (by omega) (by omega) hj h2 hs (by omega) hN]
    have:partLoop olt a i j d=partLoop olt a (i+1) j d:=by
     rw [partLoop_eq,partLoop_eq (i:=i+1),xHp (p:=pUp d a) h (by simp [pUp,hl])]
    rw [this]
   |false=>rw [jF];exact stop (by simp [pUp,hl])
  ·have e:(decide ((i:Int)≤(j:Int)))=false:=decide_eq_false (by omega)
   rw [e,cond_false];exact stop (by omega)
theorem xS9(N:Nat){a i:Nat}:∀(j n:Nat) (d:Array Org),a<i→i≤j+1→j<d.size→2≤d.size→d.size<1152921504606846976→j<n→
 xAM N n (a:Int) (i:Int) (j:Int) d.toList=
  (if i>scanDown (pDn d a) d i j then some (((scanDown (pDn d a) d i j:Nat):Int),true,(swp d (scanDown (pDn d a) d i j) a).toList)
   else xAy N N (a:Int) ((i+1:Nat):Int) ((scanDown (pDn d a) d i j - 1:Nat):Int) (swp d i (scanDown (pDn d a) d i j)).toList)
 |0,n,d,ha,hij,hj,h2,hs,hn=>by
  obtain⟨n,rfl⟩:∃m,n=m+1:=⟨n - 1,by omega⟩
  have e:(decide ((i:Int)≤((0:Nat):Int)))=false:=decide_eq_false (by omega)
  have e2:(decide ((i:Int)>((0:Nat):Int)))=true:=decide_eq_true (by omega)
  rw [xAM,e,cond_false,e2,cond_true,xCP N rfl rfl hj (by omega) h2,scanDown,if_pos (by omega)]
 |j+1,n,d,ha,hij,hj,h2,hs,hn=>by
  obtain⟨n,rfl⟩:∃m,n=m+1:=⟨n - 1,by omega⟩
  have wi:i64.wrap ((i:Int)+1)=((i+1:Nat):Int):=wn _ (by omega) (by omega)
  have wj:i64.wrap (((j+1:Nat):Int) - 1)=((j:Nat):Int):=wn _ (by omega) (by omega)
  rw [xAM,wi,wj]
  by_cases h:i≤j+1
  ·have e:(decide ((i:Int)≤((j+1:Nat):Int)))=true:=decide_eq_true (by omega)
   have e2:(decide ((i:Int)>((j+1:Nat):Int)))=false:=decide_eq_false (by omega)
   rw [e,cond_true,xDE N rfl rfl hj (by omega),e2,cond_false]
   dsimp only
   cases hl:olt d[j+1]! d[a]! with
   |false=>
    rw [Bool.not_false,cond_true,xS9 N j n d ha (by omega) (by omega) h2 hs (by omega),xGk (p:=pDn d a) h (by simp [pDn,hl])]
   |true=>
    rw [Bool.not_true,cond_false,xCP N rfl rfl (by omega) hj h2,xDS (p:=pDn d a) (by simp [pDn,hl]),if_neg (by omega)]
    rfl
  ·have e:(decide ((i:Int)≤((j+1:Nat):Int)))=false:=decide_eq_false (by omega)
   have e2:(decide ((i:Int)>((j+1:Nat):Int)))=true:=decide_eq_true (by omega)
   rw [e,cond_false,e2,cond_true,xCP N rfl rfl hj (by omega) h2,xDS (p:=pDn d a) (by omega),if_pos (by omega)]
theorem xUw(N:Nat){a j:Nat}:∀(m i n:Nat) (d:Array Org),j+1 - i=m→a<i→i≤j+1→j<d.size→2≤d.size→d.size<1152921504606846976→m<n→d.size<N→
 xBe N n (a:Int) (i:Int) (j:Int) d.toList=xAM N N (a:Int) ((scanUp (pUp d a) d j i:Nat):Int) (j:Int) d.toList:=by
 intro m
 induction m with
 |zero=>
  intro i n d hm ha hij hj h2 hs hn hN
  obtain⟨n,rfl⟩:∃m,n=m+1:=⟨n - 1,by omega⟩
  have e:(decide ((i:Int)≤(j:Int)))=false:=decide_eq_false (by omega)
  rw [xBe,e,cond_false,xE0 (by omega)]
 |succ m ih=>
  intro i n d hm ha hij hj h2 hs hn hN
  obtain⟨n,rfl⟩:∃m,n=m+1:=⟨n - 1,by omega⟩
  have wi:i64.wrap ((i:Int)+1)=((i+1:Nat):Int):=wn _ (by omega) (by omega)
  have e:(decide ((i:Int)≤(j:Int)))=true:=decide_eq_true (by omega)
  rw [xBe,wi,e,cond_true,xDE N rfl rfl (by omega) (by omega)]
  dsimp only
  cases hl:olt d[i]! d[a]! with
  |true=>rw [jT,ih (i+1) n d (by omega) (by omega) (by omega) hj h2 hs (by omega) hN,xHp (p:=pUp d a) (i:=i) (j:=j) (by omega) (by simp [pUp,hl])]
  |false=>rw [jF,xE0 (p:=pUp d a) (by simp [pUp,hl])]
theorem xSt(N:Nat){a b pivot:Nat}{d:Array Org}(hp1:a≤pivot)(hp2:pivot<b)(hb:b≤d.size)(hab:a+1<b)(h2:2≤d.size)(hs:d.size<1152921504606846976)(hN:d.size<N):
 xBG N (a:Int) (b:Int) (pivot:Int) d.toList=some (((partition olt d a b pivot).1:Int),(partition olt d a b pivot).2.1,(partition olt d a b pivot).2.2.toList):=by
 have wa:i64.wrap ((a:Int)+1)=((a+1:Nat):Int):=wn _ (by omega) (by omega)
 have wb:i64.wrap ((b:Int) - 1)=((b - 1:Nat):Int):=wn _ (by omega) (by omega)
 have hs1:(swp d a pivot).size=d.size:=xBK
 unfold xBG partition
 rw [xCP N rfl rfl (by omega) (by omega) h2,wa,wb]
 generalize swp d a pivot=d1 at hs1
 have hu:=xLA (p:=pUp d1 a) (d:=d1) _ (a+1) (b - 1) rfl (by omega)
 rw [xUw N _ (a+1) N d1 rfl (by omega) (by omega) (by omega) (by omega) (by omega) (by omega) (by omega),xS9 N (b - 1) N d1 (by omega) (by omega) (by omega) (by omega) (by omega) (by omega)]
 have hd:=xFA (p:=pDn d1 a) (d:=d1) (i:=scanUp (pUp d1 a) d1 (b - 1) (a+1)) (by omega) (b - 1) (by omega)
 dsimp only
 by_cases hc:scanUp (pUp d1 a) d1 (b - 1) (a+1)>scanDown (pDn d1 a) d1 (scanUp (pUp d1 a) d1 (b - 1) (a+1)) (b - 1)
 ·rw [if_pos hc,if_pos hc]
 ·have hne:scanUp (pUp d1 a) d1 (b - 1) (a+1)≠scanDown (pDn d1 a) d1 (scanUp (pUp d1 a) d1 (b - 1) (a+1)) (b - 1):=by
   intro e
   have h1:=xF1 (p:=pDn d1 a) (d:=d1) (i:=scanUp (pUp d1 a) d1 (b - 1) (a+1)) (by omega) (b - 1) (by omega) (by omega)
   rw [←e] at h1
   have h2:=xMc (p:=pUp d1 a) (d:=d1) _ (a+1) (b - 1) rfl (by omega)
   simp only [pDn,pUp] at h1 h2
   rw [h2] at h1
   cases h1
  rw [if_neg hc,if_neg hc]
  exact xS8 N _ _ _ N _ rfl (by omega) (by omega) (by rw [xBK];omega) (by rw [xBK];omega) (by rw [xBK];omega) (by omega) (by rw [xBK];omega)
end Go.Ab
end
section
open Go.IntKind
namespace Go.Ab
open Go.Sort
abbrev qUp(d:Array Org)(a:Nat):Org→Bool:=fun x=> !olt d[a]! x
abbrev qDn(d:Array Org)(a:Nat):Org→Bool:=fun x=>olt d[a]! x
theorem xNU(N:Nat)(k:Int→Int→Int→List Org→Option (Int×List Org)){a i:Nat}:∀(j n:Nat) (d:Array Org),a<i→i≤j+1→j<d.size→2≤d.size→d.size<1152921504606846976→j<n→
 xAD N k n (a:Int) (i:Int) (j:Int) d.toList=
  (if i>scanDown (qDn d a) d i j then some ((i:Int),d.toList)
   else k (a:Int) ((i+1:Nat):Int) ((scanDown (qDn d a) d i j - 1:Nat):Int) (swp d i (scanDown (qDn d a) d i j)).toList)
 |0,n,d,ha,hij,hj,h2,hs,hn=>by
  obtain⟨n,rfl⟩:∃m,n=m+1:=⟨n - 1,by omega⟩
  have e:(decide ((i:Int)≤((0:Nat):Int)))=false:=decide_eq_false (by omega)
  have e2:(decide ((i:Int)>((0:Nat):Int)))=true:=decide_eq_true (by omega)
  rw [xAD,e,cond_false,e2,cond_true,scanDown,if_pos (by omega)]
 |j+1,n,d,ha,hij,hj,h2,hs,hn=>by
  obtain⟨n,rfl⟩:∃m,n=m+1:=⟨n - 1,by omega⟩
  have wi:i64.wrap ((i:Int)+1)=((i+1:Nat):Int):=wn _ (by omega) (by omega)
  have wj:i64.wrap (((j+1:Nat):Int) - 1)=((j:Nat):Int):=wn _ (by omega) (by omega)
  rw [xAD,wi,wj]
  by_cases h:i≤j+1
  ·have e:(decide ((i:Int)≤((j+1:Nat):Int)))=true:=decide_eq_true (by omega)
   have e2:(decide ((i:Int)>((j+1:Nat):Int)))=false:=decide_eq_false (by omega)
   rw [e,cond_true,xDE N rfl rfl (by omega) hj,e2,cond_false]
   dsimp only
   cases hl:olt d[a]! d[j+1]! with
   |true=>
    rw [jT,xNU N k j n d ha (by omega) (by omega) h2 hs (by omega),xGk (p:=qDn d a) h (by simp [qDn,hl])]
   |false=>
    rw [jF,xCP N rfl rfl (by omega) hj h2,xDS (p:=qDn d a) (by simp [qDn,hl]),if_neg (by omega)]
    rfl
  ·have e:(decide ((i:Int)≤((j+1:Nat):Int)))=false:=decide_eq_false (by omega)
   have e2:(decide ((i:Int)>((j+1:Nat):Int)))=true:=decide_eq_true (by omega)
   rw [e,cond_false,e2,cond_true,xDS (p:=qDn d a) (by omega),if_pos (by omega)]
theorem xSu(N:Nat){a:Nat}:∀(m i j n:Nat) (d:Array Org),j+1 - i=m→a<i→i≤j+1→j<d.size→2≤d.size→d.size<1152921504606846976→m<n→d.size<N→
 xAC N n (a:Int) (i:Int) (j:Int) d.toList=some (((partEqLoop olt a i j d).1:Int),(partEqLoop olt a i j d).2.toList):=by
 intro m
 induction m using Nat.strongRecOn with
 |_ m ih=>
  intro i j n d hm ha hij hj h2 hs hn hN
  obtain⟨n,rfl⟩:∃m,n=m+1:=⟨n - 1,by omega⟩
  have wi:i64.wrap ((i:Int)+1)=((i+1:Nat):Int):=wn _ (by omega) (by omega)
  rw [xAC,wi]
  have stop:∀(hc:¬(i≤j∧qUp d a d[i]! =true)),xAD N (fun z0 z1 z2 z3=>(xAC N n z0 z1 z2 z3)) N (a:Int) (i:Int) (j:Int) d.toList=
   some (((partEqLoop olt a i j d).1:Int),(partEqLoop olt a i j d).2.toList):=by
   intro hc
   rw [xNU N _ j N d ha hij hj h2 hs (by omega),partEqLoop_eq,xE0 (p:=qUp d a) hc]
   have hb:=xFA (p:=qDn d a) (d:=d) (by omega:0<i) j hij
   split
   ·rfl
   ·rename_i hg
    have hne:i≠scanDown (qDn d a) d i j:=by
     intro e
     have h1:=xF1 (p:=qDn d a) (d:=d) (by omega:0<i) j hij (by omega)
     rw [←e] at h1
     have h2:qUp d a d[i]! =true:=by simpa [qDn,qUp] using h1
     exact hc ⟨by omega,h2⟩
    exact ih (scanDown (qDn d a) d i j - 1+1 - (i+1)) (by omega) (i+1) (scanDown (qDn d a) d i j - 1) n _ rfl (by omega) (by omega) (by rw [xBK];omega) (by rw [xBK];exact h2) (by rw [xBK];exact hs) (by omega) (by rw [xBK];exact hN)
  by_cases h:i≤j
  ·have e:(decide ((i:Int)≤(j:Int)))=true:=decide_eq_true (by omega)
   rw [e,cond_true,xDE N rfl rfl (by omega) (by omega)]
   dsimp only
   cases hl:olt d[a]! d[i]! with
   |false=>
    rw [Bool.not_false,cond_true,ih (m - 1) (by omega) (i+1) j n d (by omega) (by omega) (by omega) hj h2 hs (by omega) hN]
    have:partEqLoop olt a i j d=partEqLoop olt a (i+1) j d:=by
     rw [partEqLoop_eq,partEqLoop_eq (i:=i+1),xHp (p:=qUp d a) h (by simp [qUp,hl])]
    rw [this]
   |true=>rw [Bool.not_true,cond_false];exact stop (by simp [qUp,hl])
  ·have e:(decide ((i:Int)≤(j:Int)))=false:=decide_eq_false (by omega)
   rw [e,cond_false];exact stop (by omega)
theorem xNV(N:Nat){a b pivot:Nat}{d:Array Org}(hp1:a≤pivot)(hp2:pivot<b)(hb:b≤d.size)(hab:a+1<b)(h2:2≤d.size)(hs:d.size<1152921504606846976)(hN:d.size<N):
 xBo N (a:Int) (b:Int) (pivot:Int) d.toList=some (((partitionEqual olt d a b pivot).1:Int),(partitionEqual olt d a b pivot).2.toList):=by
 have wa:i64.wrap ((a:Int)+1)=((a+1:Nat):Int):=wn _ (by omega) (by omega)
 have wb:i64.wrap ((b:Int) - 1)=((b - 1:Nat):Int):=wn _ (by omega) (by omega)
 have hs1:(swp d a pivot).size=d.size:=xBK
 unfold xBo partitionEqual
 rw [xCP N rfl rfl (by omega) (by omega) h2,wa,wb]
 exact xSu N _ (a+1) (b - 1) N _ rfl (by omega) (by omega) (by omega) (by omega) (by omega) (by omega) (by omega)
theorem xTg(N:Nat)(k:Int→Int→Int→Int→List Org→Option (Bool×List Org)){a b i:Nat}{s:Nat}(hs5:s<100):∀(m j n:Nat) (d:Array Org),b - j=m→0<j→j<1152921504606846976→b≤d.size→2≤d.size→d.size<1152921504606846976→m<n→
 xAH N k n (a:Int) (b:Int) (i:Int) (s:Int) (j:Int) d.toList=k (a:Int) (b:Int) (i:Int) ((s+1:Nat):Int) (shiftUp olt b j d).toList∧(shiftUp olt b j d).size=d.size:=by
 have ws:i64.wrap ((s:Int)+1)=((s+1:Nat):Int):=wn _ (by omega) (by omega)
 intro m
 induction m with
 |zero=>
  intro j n d hm hj hjb hb h2 hs hn
  obtain⟨n,rfl⟩:∃m,n=m+1:=⟨n - 1,by omega⟩
  have e:(decide ((j:Int)<(b:Int)))=false:=decide_eq_false (by omega)
  rw [xAH,e,cond_false,shiftUp,if_neg (by omega),ws]
  exact⟨rfl,rfl⟩
 |succ m ih=>
  intro j n d hm hj hjb hb h2 hs hn
  obtain⟨n,rfl⟩:∃m,n=m+1:=⟨n - 1,by omega⟩
  have e:(decide ((j:Int)<(b:Int)))=true:=decide_eq_true (by omega)
  have w1:i64.wrap ((j:Int) - 1)=((j - 1:Nat):Int):=wn _ (by omega) (by omega)
  have w2:i64.wrap ((j:Int)+1)=((j+1:Nat):Int):=wn _ (by omega) (by omega)
  rw [xAH,e,cond_true,w1,w2,ws,xDE N rfl rfl (by omega) (by omega),shiftUp,if_pos (by omega)]
  dsimp only
  cases hl:olt d[j]! d[j - 1]! with
  |false=>exact⟨rfl,rfl⟩
  |true=>
   rw [Bool.not_true,cond_false,xCP N rfl rfl (by omega) (by omega) h2]
   have:=ih (j+1) n (swp d j (j - 1)) (by omega) (by omega) (by omega) (by rw [xBK];exact hb) (by rw [xBK];exact h2) (by rw [xBK];exact hs) (by omega)
   rw [xBK] at this
   exact this
def up18(b i:Nat)(d:Array Org):Array Org:=if b - i≥2 then shiftUp olt b (i+1) d else d
theorem xMD(N:Nat)(k:Int→Int→Int→Int→List Org→Option (Bool×List Org)){a b i:Nat}{s:Nat}(hs5:s<100)(d:Array Org)(hib:i≤b)(hb:b≤d.size)(h2:2≤d.size)(hs:d.size<1152921504606846976)(hN:d.size<N):
 xAz N k (a:Int) (b:Int) (i:Int) (s:Int) d.toList=k (a:Int) (b:Int) (i:Int) ((s+1:Nat):Int) (up18 b i d).toList∧(up18 b i d).size=d.size:=by
 have ws:i64.wrap ((s:Int)+1)=((s+1:Nat):Int):=wn _ (by omega) (by omega)
 have w1:i64.wrap ((b:Int) - (i:Int))=((b - i:Nat):Int):=wn _ (by omega) (by omega)
 have w2:i64.wrap ((i:Int)+1)=((i+1:Nat):Int):=wn _ (by omega) (by omega)
 unfold xAz up18
 rw [ws,w1,w2]
 by_cases h:b - i≥2
 ·have e:(decide (((b - i:Nat):Int)≥2))=true:=decide_eq_true (by omega)
  rw [e,cond_true,if_pos h]
  exact xTg N k hs5 _ (i+1) N d rfl (by omega) (by omega) hb h2 hs (by omega)
 ·have e:(decide (((b - i:Nat):Int)≥2))=false:=decide_eq_false (by omega)
  rw [e,cond_false,if_neg h]
  exact⟨rfl,rfl⟩
theorem xPB(N:Nat)(k:Int→Int→Int→Int→List Org→Option (Bool×List Org)){a b i:Nat}{s:Nat}:∀(j n:Nat) (d:Array Org),j<d.size→2≤d.size→d.size<1152921504606846976→j<n→
 xAG N k n (a:Int) (b:Int) (i:Int) (s:Int) (j:Int) d.toList=xAz N k (a:Int) (b:Int) (i:Int) (s:Int) (shiftDown olt j d).toList∧(shiftDown olt j d).size=d.size
 |0,n,d,hj,h2,hs,hn=>by
  obtain⟨n,rfl⟩:∃m,n=m+1:=⟨n - 1,by omega⟩
  have e:(decide (((0:Nat):Int)≥1))=false:=decide_eq_false (by omega)
  rw [xAG,e,cond_false]
  exact⟨rfl,rfl⟩
 |j+1,n,d,hj,h2,hs,hn=>by
  obtain⟨n,rfl⟩:∃m,n=m+1:=⟨n - 1,by omega⟩
  have e:(decide (((j+1:Nat):Int)≥1))=true:=decide_eq_true (by omega)
  have w1:i64.wrap (((j+1:Nat):Int) - 1)=((j:Nat):Int):=wn _ (by omega) (by omega)
  rw [xAG,e,cond_true,w1,xDE N rfl rfl hj (by omega),shiftDown]
  dsimp only
  cases hl:olt d[j+1]! d[j]! with
  |false=>exact⟨rfl,rfl⟩
  |true=>
   rw [Bool.not_true,cond_false,xCP N rfl rfl hj (by omega) h2]
   have:=xPB N k (a:=a) (b:=b) (i:=i) (s:=s) j n (swp d (j+1) j) (by rw [xBK];omega) (by rw [xBK];exact h2) (by rw [xBK];exact hs) (by omega)
   rw [xBK] at this
   exact this
theorem xIj(d:Array Org)(b:Nat):∀(m i:Nat),b - i=m→i≤b→i≤scanSorted olt d b i∧scanSorted olt d b i≤b:=by
 intro m
 induction m with
 |zero=>intro i hm hi;rw [scanSorted,if_neg (by simp;omega)];omega
 |succ m ih=>
  intro i hm hi
  rw [scanSorted]
  split
  ·have:=ih (i+1) (by omega) (by omega);omega
  ·omega
theorem xUz(N:Nat)(k:Int→Int→Int→Int→List Org→Option (Bool×List Org)){a b:Nat}{s:Nat}:∀(m i n:Nat) (d:Array Org),b - i=m→0<i→i≤b→b≤d.size→2≤d.size→d.size<1152921504606846976→m<n→
 xAJ N k n (a:Int) (b:Int) (i:Int) (s:Int) d.toList=xAK N k (a:Int) (b:Int) ((scanSorted olt d b i:Nat):Int) (s:Int) d.toList:=by
 intro m
 induction m with
 |zero=>
  intro i n d hm hi hib hb h2 hs hn
  obtain⟨n,rfl⟩:∃m,n=m+1:=⟨n - 1,by omega⟩
  have e:(decide ((i:Int)<(b:Int)))=false:=decide_eq_false (by omega)
  rw [xAJ,e,cond_false,scanSorted,if_neg (by simp;omega)]
 |succ m ih=>
  intro i n d hm hi hib hb h2 hs hn
  obtain⟨n,rfl⟩:∃m,n=m+1:=⟨n - 1,by omega⟩
  have e:(decide ((i:Int)<(b:Int)))=true:=decide_eq_true (by omega)
  have w1:i64.wrap ((i:Int) - 1)=((i - 1:Nat):Int):=wn _ (by omega) (by omega)
  have w2:i64.wrap ((i:Int)+1)=((i+1:Nat):Int):=wn _ (by omega) (by omega)
  rw [xAJ,e,cond_true,w1,w2,xDE N rfl rfl (by omega) (by omega),scanSorted]
  dsimp only
  cases hl:olt d[i]! d[i - 1]! with
  |false=>
   rw [Bool.not_false,cond_true,if_pos (by simp;omega)]
   exact ih (i+1) n d (by omega) (by omega) (by omega) hb h2 hs (by omega)
  |true=>rw [Bool.not_true,cond_false,if_neg (by simp)]
theorem xUx(N:Nat)(k:Int→Int→Int→Int→List Org→Option (Bool×List Org)){a b i:Nat}{s:Nat}(hs5:s<100)(d:Array Org)(hai:a<i)(hib:i≤b)(hb:b≤d.size)(h2:2≤d.size)(hs:d.size<1152921504606846976)(hN:d.size<N):
 xAK N k (a:Int) (b:Int) (i:Int) (s:Int) d.toList=
  (if i=b then some (true,d.toList) else if b - a<50 then some (false,d.toList) else
    k (a:Int) (b:Int) (i:Int) ((s+1:Nat):Int) (up18 b i (if i - a≥2 then shiftDown olt (i - 1) (swp d i (i - 1)) else swp d i (i - 1))).toList)∧
 (i≠b→(up18 b i (if i - a≥2 then shiftDown olt (i - 1) (swp d i (i - 1)) else swp d i (i - 1))).size=d.size):=by
 have w1:i64.wrap ((b:Int) - (a:Int))=((b - a:Nat):Int):=wn _ (by omega) (by omega)
 have w2:i64.wrap ((i:Int) - 1)=((i - 1:Nat):Int):=wn _ (by omega) (by omega)
 have w3:i64.wrap ((i:Int) - (a:Int))=((i - a:Nat):Int):=wn _ (by omega) (by omega)
 unfold xAK
 rw [w1,w2,w3]
 by_cases h:i=b
 ·have e:(((i:Int))==(b:Int))=true:=by simp [h]
  rw [e,cond_true,if_pos h]
  exact⟨rfl,fun g=>absurd h g⟩
 ·have e:(((i:Int))==(b:Int))=false:=by simp;omega
  rw [e,cond_false,if_neg h]
  have hlt:i<b:=by omega
  have d1:=xPB N k (a:=a) (b:=b) (i:=i) (s:=s) (i - 1) N (swp d i (i - 1)) (by rw [xBK];omega) (by rw [xBK];exact h2) (by rw [xBK];exact hs) (by omega)
  rw [xBK] at d1
  by_cases h50:b - a<50
  ·have e2:(decide (((b - a:Nat):Int)<50))=true:=decide_eq_true (by omega)
   rw [e2,cond_true,if_pos h50]
   refine⟨rfl,fun _=> ?_⟩
   by_cases h3:i - a≥2
   ·rw [if_pos h3]
    rw [(xMD N k (a:=a) (i:=i) hs5 (shiftDown olt (i - 1) (swp d i (i - 1))) hib (by rw [d1.2];exact hb) (by rw [d1.2];exact h2) (by rw [d1.2];exact hs) (by rw [d1.2];exact hN)).2,d1.2]
   ·rw [if_neg h3]
    rw [(xMD N k (a:=a) (i:=i) hs5 (swp d i (i - 1)) hib (by rw [xBK];exact hb) (by rw [xBK];exact h2) (by rw [xBK];exact hs) (by rw [xBK];exact hN)).2,xBK]
  ·have e2:(decide (((b - a:Nat):Int)<50))=false:=decide_eq_false (by omega)
   rw [e2,cond_false,if_neg h50,xCP N rfl rfl (by omega) (by omega) h2]
   by_cases h3:i - a≥2
   ·have e3:(decide (((i - a:Nat):Int)≥2))=true:=decide_eq_true (by omega)
    have u:=xMD N k (a:=a) (i:=i) hs5 (shiftDown olt (i - 1) (swp d i (i - 1))) hib (by rw [d1.2];exact hb) (by rw [d1.2];exact h2) (by rw [d1.2];exact hs) (by rw [d1.2];exact hN)
    rw [e3,cond_true,if_pos h3,d1.1,u.1,u.2,d1.2]
    exact⟨rfl,fun _=>rfl⟩
   ·have e3:(decide (((i - a:Nat):Int)≥2))=false:=decide_eq_false (by omega)
    have u:=xMD N k (a:=a) (i:=i) hs5 (swp d i (i - 1)) hib (by rw [xBK];exact hb) (by rw [xBK];exact h2) (by rw [xBK];exact hs) (by rw [xBK];exact hN)
    rw [e3,cond_false,if_neg h3,u.1,u.2,xBK]
    exact⟨rfl,fun _=>rfl⟩
theorem xTe(N:Nat){a b:Nat}:∀(q s i n:Nat) (d:Array Org),s+q=5→a<i→i≤b→b≤d.size→2≤d.size→d.size<1152921504606846976→q<n→d.size<N→
 xAB N n (a:Int) (b:Int) (i:Int) (s:Int) d.toList=some ((partialIns olt a b q i d).2,(partialIns olt a b q i d).1.toList)
 |0,s,i,n,d,hq,hai,hib,hb,h2,hs,hn,hN=>by
  obtain⟨n,rfl⟩:∃m,n=m+1:=⟨n - 1,by omega⟩
  have e:(decide ((s:Int)<5))=false:=decide_eq_false (by omega)
  rw [xAB,e,cond_false]
  rfl
 |q+1,s,i,n,d,hq,hai,hib,hb,h2,hs,hn,hN=>by
  obtain⟨n,rfl⟩:∃m,n=m+1:=⟨n - 1,by omega⟩
  have e:(decide ((s:Int)<5))=true:=decide_eq_true (by omega)
  have hsc:=xIj d b _ i rfl hib
  rw [xAB,e,cond_true,xUz N _ _ i N d rfl (by omega) hib hb h2 hs (by omega),partialIns]
  generalize scanSorted olt d b i=i2 at hsc
  obtain⟨p1,p2⟩:=xUx N (fun z0 z1 z2 z3 z4=>(xAB N n z0 z1 z2 z3 z4)) (a:=a) (b:=b) (i:=i2) (s:=s) (by omega) d (by omega) (by omega) hb h2 hs hN
  rw [p1]
  dsimp only
  by_cases h:i2=b
  ·rw [if_pos h,if_pos h]
  ·rw [if_neg h,if_neg h]
   by_cases h50:b - a<50
   ·rw [if_pos h50,if_pos h50]
   ·rw [if_neg h50,if_neg h50]
    have hsz:=p2 h
    exact xTe N q (s+1) i2 n _ (by omega) (by omega) (by omega) (by rw [hsz];exact hb) (by rw [hsz];exact h2) (by rw [hsz];exact hs) (by omega) (by rw [hsz];exact hN)
theorem xSv(N:Nat){a b:Nat}{d:Array Org}(hab:a<b)(hb:b≤d.size)(h2:2≤d.size)(hs:d.size<1152921504606846976)(hN:d.size+10<N):
 xA8 N (a:Int) (b:Int) d.toList=some ((partialInsertionSort olt d a b).2,(partialInsertionSort olt d a b).1.toList):=by
 have wa:i64.wrap ((a:Int)+1)=((a+1:Nat):Int):=wn _ (by omega) (by omega)
 unfold xA8 partialInsertionSort
 rw [wa]
 exact xTe N 5 0 (a+1) N d rfl (by omega) (by omega) hb h2 hs (by omega) (by omega)
end Go.Ab
end
section
open Go.IntKind
namespace Go.Ab
open Go.Sort
theorem xIJ(N:Nat){x y:Int}{i j:Nat}(s:Int){d:Array Org}(hx:x=i)(hy:y=j)(hi:i<d.size)(hj:j<d.size):
 ∃(i' j' :Nat) (s' :Int),xBl N x y s d.toList=some ((i' :Int),(j' :Int),s',d.toList)∧((i' =i∧j' =j)∨(i' =j∧j' =i)):=by
 subst hx hy
 unfold xBl
 rw [xDE N rfl rfl hj hi]
 dsimp only
 cases olt d[j]! d[i]! with
 |true=>exact⟨j,i,_,rfl,.inr ⟨rfl,rfl⟩⟩
 |false=>exact⟨i,j,_,rfl,.inl ⟨rfl,rfl⟩⟩
theorem xIB(N:Nat){x y z:Int}{i j k:Nat}(s:Int){d:Array Org}(hx:x=i)(hy:y=j)(hz:z=k)(hi:i<d.size)(hj:j<d.size)(hk:k<d.size):
 ∃(m:Nat) (s' :Int),xBk N x y z s d.toList=some ((m:Int),s',d.toList)∧(m=i∨m=j∨m=k):=by
 unfold xBk
 obtain⟨i1,j1,s1,e1,h1⟩:=xIJ N s hx hy hi hj
 rw [e1]
 obtain⟨i2,j2,s2,e2,h2⟩:=xIJ N s1 (x:=(j1:Int)) (y:=z) rfl hz (by omega) hk
 simp only [jS]
 rw [e2]
 obtain⟨i3,j3,s3,e3,h3⟩:=xIJ N s2 (x:=(i1:Int)) (y:=(i2:Int)) (d:=d) rfl rfl (by omega) (by omega)
 simp only [jS]
 rw [e3]
 exact⟨j3,s3,rfl,by omega⟩
theorem xIA(N:Nat){x:Int}{i:Nat}(s:Int){d:Array Org}(hx:x=i)(h0:0<i)(hi:i+1<d.size)(hs:d.size<1152921504606846976):
 ∃(m:Nat) (s' :Int),xAQ N x s d.toList=some ((m:Int),s',d.toList)∧(m=i - 1∨m=i∨m=i+1):=by
 subst hx
 unfold xAQ
 have w1:i64.wrap ((i:Int) - 1)=((i - 1:Nat):Int):=wn _ (by omega) (by omega)
 have w2:i64.wrap ((i:Int)+1)=((i+1:Nat):Int):=wn _ (by omega) (by omega)
 rw [w1,w2]
 obtain⟨m,s1,e1,h1⟩:=xIB N s (x:=((i - 1:Nat):Int)) (y:=(i:Int)) (z:=((i+1:Nat):Int)) (d:=d) rfl rfl rfl (by omega) (by omega) hi
 rw [e1]
 exact⟨m,s1,rfl,h1⟩
theorem xNq(N:Nat){a b:Nat}{d:Array Org}(hab:a+12<b)(hb:b≤d.size)(hs:d.size<1152921504606846976):
 ∃(p:Nat) (h:Int),xBy N (a:Int) (b:Int) d.toList=some ((p:Int),h,d.toList)∧(a≤p∧p<b):=by
 have w1:i64.wrap ((b:Int) - (a:Int))=((b - a:Nat):Int):=wn _ (by omega) (by omega)
 have t:Int.tdiv ((b - a:Nat):Int) 4=(((b - a) / 4:Nat):Int):=rfl
 have w2:i64.wrap (Int.tdiv ((b - a:Nat):Int) 4)=(((b - a) / 4:Nat):Int):=by rw [t];exact wn _ rfl (by omega)
 have q:∀c:Nat,c≤3→i64.wrap ((a:Int)+i64.wrap ((((b - a) / 4:Nat):Int)*(c:Int)))=((a+(b - a) / 4*c:Nat):Int):=by
  intro c hc
  have hle:(b - a) / 4*c≤(b - a) / 4*3:=Nat.mul_le_mul_left _ hc
  have e:i64.wrap ((((b - a) / 4:Nat):Int)*(c:Int))=(((b - a) / 4*c:Nat):Int):=wn _ (by simp) (by omega)
  rw [e]
  exact wn _ (by simp) (by omega)
 have q1:=q 1 (by omega)
 have q2:=q 2 (by omega)
 have q3:=q 3 (by omega)
 have q1:i64.wrap ((a:Int)+i64.wrap ((((b - a) / 4:Nat):Int)*1))=_:=q1
 have q2:i64.wrap ((a:Int)+i64.wrap ((((b - a) / 4:Nat):Int)*2))=_:=q2
 have q3:i64.wrap ((a:Int)+i64.wrap ((((b - a) / 4:Nat):Int)*3))=_:=q3
 unfold xBy
 rw [w1,w2,q1,q2,q3]
 have e8:(decide (((b - a:Nat):Int)≥8))=true:=decide_eq_true (by omega)
 rw [e8,cond_true]
 have k1:3≤(b - a) / 4:=by omega
 have k2:(b - a) / 4*4≤b - a:=by omega
 clear q q1 q2 q3 w2 t
 generalize (b - a) / 4=q at k1 k2
 by_cases h50:b - a≥50
 ·have e50:(decide (((b - a:Nat):Int)≥50))=true:=decide_eq_true (by omega)
  rw [e50,cond_true]
  obtain⟨m1,s1,e1,h1⟩:=xIA N 0 (x:=((a+q*1:Nat):Int)) (d:=d) rfl (by omega) (by omega) hs
  rw [e1]
  simp only [jS]
  obtain⟨m2,s2,e2,h2⟩:=xIA N s1 (x:=((a+q*2:Nat):Int)) (d:=d) rfl (by omega) (by omega) hs
  rw [e2]
  simp only [jS]
  obtain⟨m3,s3,e3,h3⟩:=xIA N s2 (x:=((a+q*3:Nat):Int)) (d:=d) rfl (by omega) (by omega) hs
  rw [e3]
  simp only [jS]
  obtain⟨m4,s4,e4,h4⟩:=xIB N s3 (x:=(m1:Int)) (y:=(m2:Int)) (z:=(m3:Int)) (d:=d) rfl rfl rfl (by omega) (by omega) (by omega)
  rw [e4]
  simp only [jS]
  have hm:a≤m4∧m4<b:=by omega
  generalize (s4==(0:Int))=c1
  generalize (s4==(12:Int))=c2
  cases c1 <;>cases c2 <;>exact⟨m4,_,rfl,hm⟩
 ·have e50:(decide (((b - a:Nat):Int)≥50))=false:=decide_eq_false (by omega)
  rw [e50,cond_false]
  obtain⟨m4,s4,e4,h4⟩:=xIB N 0 (x:=((a+q*1:Nat):Int)) (y:=((a+q*2:Nat):Int)) (z:=((a+q*3:Nat):Int)) (d:=d) rfl rfl rfl (by omega) (by omega) (by omega)
  rw [e4]
  simp only [jS]
  have hm:a≤m4∧m4<b:=by omega
  generalize (s4==(0:Int))=c1
  generalize (s4==(12:Int))=c2
  cases c1 <;>cases c2 <;>exact⟨m4,_,rfl,hm⟩
theorem xHZ{x:Int}(h1:0≤x)(h2:x<18446744073709551616):IntKind.u64.wrap x=x:=by
 have:IntKind.u64.wrap x=x % 18446744073709551616:=by
  unfold IntKind.wrap
  simp [IntKind.bits,IntKind.signed]
 rw [this]
 exact Int.emod_eq_of_lt h1 h2
theorem xPD{r y:Int}{m:Nat}(hy:y=m)(hm:m<9223372036854775808):∃o:Nat,andI .u64 r y=(o:Int)∧o≤m:=by
 subst hy
 unfold andI
 refine⟨(BitVec.ofInt 64 r &&& BitVec.ofInt 64 (m:Int)).toNat,?_,?_⟩
 ·show IntKind.u64.wrap (((BitVec.ofInt 64 r &&& BitVec.ofInt 64 (m:Int)).toNat:Nat):Int)=_
  refine xHZ (by omega) ?_
  have:=(BitVec.ofInt 64 r &&& BitVec.ofInt 64 (m:Int)).isLt
  omega
 ·rw [BitVec.toNat_and]
  refine Nat.le_trans Nat.and_le_right ?_
  rw [BitVec.toNat_ofInt]
  omega
theorem brk6(N:Nat){a b M:Nat}(hl:12<b - a)(hM:M≤2*(b - a))(hM0:0<M):∀(m idx n:Nat) (st:Int) (d:Array Org),a+(b - a) / 4*2+2 - idx=m→a≤idx→b≤d.size→d.size<1152921504606846976→m<n→
 ∃d',xAN N n (a:Int) ((b - a:Nat):Int) (M:Int) (idx:Int) st d.toList=some d'.toList∧PermIn a b d d' :=by
 intro m
 induction m with
 |zero=>
  intro idx n st d hm hidx hb hs hn
  obtain⟨n,rfl⟩:∃m,n=m+1:=⟨n - 1,by omega⟩
  have t:Int.tdiv ((b - a:Nat):Int) 4=(((b - a) / 4:Nat):Int):=rfl
  have w2:i64.wrap (Int.tdiv ((b - a:Nat):Int) 4)=(((b - a) / 4:Nat):Int):=by rw [t];exact wn _ rfl (by omega)
  have w3:i64.wrap ((((b - a) / 4:Nat):Int)*2)=(((b - a) / 4*2:Nat):Int):=wn _ (by simp) (by omega)
  have w4:i64.wrap ((a:Int)+(((b - a) / 4*2:Nat):Int))=((a+(b - a) / 4*2:Nat):Int):=wn _ (by simp) (by omega)
  have w5:i64.wrap (((a+(b - a) / 4*2:Nat):Int)+1)=((a+(b - a) / 4*2+1:Nat):Int):=wn _ (by simp) (by omega)
  rw [xAN,w2,w3,w4,w5]
  have e:(decide ((idx:Int)≤((a+(b - a) / 4*2+1:Nat):Int)))=false:=decide_eq_false (by omega)
  rw [e,cond_false]
  exact⟨d,rfl,permIn_refl d a b⟩
 |succ m ih=>
  intro idx n st d hm hidx hb hs hn
  obtain⟨n,rfl⟩:∃m,n=m+1:=⟨n - 1,by omega⟩
  have t:Int.tdiv ((b - a:Nat):Int) 4=(((b - a) / 4:Nat):Int):=rfl
  have w2:i64.wrap (Int.tdiv ((b - a:Nat):Int) 4)=(((b - a) / 4:Nat):Int):=by rw [t];exact wn _ rfl (by omega)
  have w3:i64.wrap ((((b - a) / 4:Nat):Int)*2)=(((b - a) / 4*2:Nat):Int):=wn _ (by simp) (by omega)
  have w4:i64.wrap ((a:Int)+(((b - a) / 4*2:Nat):Int))=((a+(b - a) / 4*2:Nat):Int):=wn _ (by simp) (by omega)
  have w5:i64.wrap (((a+(b - a) / 4*2:Nat):Int)+1)=((a+(b - a) / 4*2+1:Nat):Int):=wn _ (by simp) (by omega)
  have w6:IntKind.u64.wrap ((M:Int) - 1)=((M - 1:Nat):Int):=by rw [xHZ (by omega) (by omega)];omega
  have w7:i64.wrap ((idx:Int)+1)=((idx+1:Nat):Int):=wn _ (by omega) (by omega)
  rw [xAN,w2,w3,w4,w5,w6,w7]
  have e:(decide ((idx:Int)≤((a+(b - a) / 4*2+1:Nat):Int)))=true:=decide_eq_true (by omega)
  rw [e,cond_true]
  cases hx:xDF N st with
  |none=>unfold xDF at hx;cases hx
  |some r=>
   rw [jS]
   obtain⟨o,ho1,ho2⟩:=xPD (r:=r.1) (y:=((M - 1:Nat):Int)) (m:=M - 1) rfl (by omega)
   have w8:i64.wrap (andI .u64 r.1 ((M - 1:Nat):Int))=(o:Int):=by rw [ho1];exact wn o rfl (by omega)
   rw [w8]
   by_cases hc:o≥b - a
   ·have e2:(decide ((o:Int)≥((b - a:Nat):Int)))=true:=decide_eq_true (by omega)
    have w9:i64.wrap ((o:Int) - ((b - a:Nat):Int))=((o - (b - a):Nat):Int):=wn _ (by omega) (by omega)
    have w10:i64.wrap ((a:Int)+((o - (b - a):Nat):Int))=((a+(o - (b - a)):Nat):Int):=wn _ (by omega) (by omega)
    rw [e2,cond_true,w9,w10,xCP N rfl rfl (by omega) (by omega) (by omega)]
    obtain⟨d',h1,h2⟩:=ih (idx+1) n r.2 (swp d idx (a+(o - (b - a)))) (by omega) (by omega) (by rw [xBK];exact hb) (by rw [xBK];exact hs) (by omega)
    exact⟨d',h1,permIn_trans _ _ _ a b (swp_permIn d a b idx (a+(o - (b - a))) hidx (by omega) (by omega) (by omega) hb) h2⟩
   ·have e2:(decide ((o:Int)≥((b - a:Nat):Int)))=false:=decide_eq_false (by omega)
    have w10:i64.wrap ((a:Int)+(o:Int))=((a+o:Nat):Int):=wn _ (by omega) (by omega)
    rw [e2,cond_false,w10,xCP N rfl rfl (by omega) (by omega) (by omega)]
    obtain⟨d',h1,h2⟩:=ih (idx+1) n r.2 (swp d idx (a+o)) (by omega) (by omega) (by rw [xBK];exact hb) (by rw [xBK];exact hs) (by omega)
    exact⟨d',h1,permIn_trans _ _ _ a b (swp_permIn d a b idx (a+o) hidx (by omega) (by omega) (by omega) hb) h2⟩
theorem xKQ{x:Nat}(h0:0<x)(h:x<1152921504606846976):0<Lib.bitLen x∧Lib.bitLen x≤60∧2 ^ Lib.bitLen x≤2*x:=by
 obtain⟨h1,h2,h3⟩:=Lib.bitLenAux_bounds 64 x (by omega) (by omega)
 have h1:1≤Lib.bitLen x:=h1
 have h2:2 ^ (Lib.bitLen x - 1)≤x:=h2
 refine⟨by omega,Lib.bitLen_le x 60 (by omega) (by omega),?_⟩
 obtain⟨k,hk⟩:∃k,Lib.bitLen x=k+1:=⟨Lib.bitLen x - 1,by omega⟩
 rw [hk] at h2 ⊢
 rw [Nat.add_sub_cancel] at h2
 rw [Nat.pow_succ]
 omega
theorem xM7(N:Nat){l:Nat}(h0:0<l)(h:l<1152921504606846976):∃M:Nat,xDu N (l:Int)=some (M:Int)∧0<M∧M≤2*l:=by
 obtain⟨f1,f2,f3⟩:=xKQ h0 h
 have w1:IntKind.u64.wrap (l:Int)=(l:Int):=xHZ (by omega) (by omega)
 have w2:IntKind.u64.wrap ((Lib.bitLen l:Nat):Int)=((Lib.bitLen l:Nat):Int):=xHZ (by omega) (by omega)
 have hp:(2:Nat) ^ Lib.bitLen l<18446744073709551616:=by omega
 unfold xDu xGZ zFJ
 rw [w1,if_pos (by omega),Option.bind_some,Int.toNat_natCast,w2,if_pos (by omega),Int.toNat_natCast]
 refine⟨2 ^ Lib.bitLen l,?_,Nat.pos_of_ne_zero (by simp),f3⟩
 have e:(1:Int)*2 ^ Lib.bitLen l=((2 ^ Lib.bitLen l:Nat):Int):=by simp
 rw [e]
 generalize (2:Nat) ^ Lib.bitLen l=P at hp
 rw [xHZ (by omega) (by omega)]
theorem xSA(N:Nat){a b:Nat}{d:Array Org}(hab:a+12<b)(hb:b≤d.size)(hs:d.size<1152921504606846976)(hN:5<N):
 ∃d',xBq N (a:Int) (b:Int) d.toList=some d'.toList∧PermIn a b d d' :=by
 have w1:i64.wrap ((b:Int) - (a:Int))=((b - a:Nat):Int):=wn _ (by omega) (by omega)
 have t:Int.tdiv ((b - a:Nat):Int) 4=(((b - a) / 4:Nat):Int):=rfl
 have w2:i64.wrap (Int.tdiv ((b - a:Nat):Int) 4)=(((b - a) / 4:Nat):Int):=by rw [t];exact wn _ rfl (by omega)
 have w3:i64.wrap ((((b - a) / 4:Nat):Int)*2)=(((b - a) / 4*2:Nat):Int):=wn _ (by simp) (by omega)
 have w4:i64.wrap ((a:Int)+(((b - a) / 4*2:Nat):Int))=((a+(b - a) / 4*2:Nat):Int):=wn _ (by simp) (by omega)
 have w5:i64.wrap (((a+(b - a) / 4*2:Nat):Int) - 1)=((a+(b - a) / 4*2 - 1:Nat):Int):=wn _ (by omega) (by omega)
 unfold xBq
 rw [w1,w2,w3,w4,w5]
 have e8:(decide (((b - a:Nat):Int)≥8))=true:=decide_eq_true (by omega)
 obtain⟨M,m1,m2,m3⟩:=xM7 N (l:=b - a) (by omega) (by omega)
 rw [e8,cond_true,m1,Option.bind_some]
 exact brk6 N (by omega) m3 m2 _ _ N _ d rfl (by omega) hb hs (by omega)
def Sorts(a b:Nat)(d:Array Org)(o:Option (List Org)):Prop:=∃d',o=some d'.toList∧PermIn a b d d' ∧SortedIn olt a b d'
theorem Sorts.after{a b:Nat}{d d1:Array Org}{o:Option (List Org)}(h:PermIn a b d d1)(hs:Sorts a b d1 o):Sorts a b d o:=
 hs.elim fun d' ⟨h1,h2,h3⟩=>⟨d',h1,permIn_trans _ _ _ a b h h2,h3⟩
theorem xTd(N:Nat){q:Int→Int→Int→List Org→Option (List Org)}{k:Int→Int→Int→Bool→Bool→List Org→Option (List Org)}{a b p:Nat}(lim x10:Int){d:Array Org}
 (hp1:a≤p) (hp2:p<b) (hb:b≤d.size) (hab:a+12<b) (hs:d.size<1152921504606846976) (hN:d.size<N) (hB:Below olt a b d)
 (hq:∀(a' b' :Nat) (d' :Array Org),b' - a' <b - a→a' ≤b' →b' ≤d'.size→d'.size=d.size→Below olt a' b' d' →Sorts a' b' d' (q (a' :Int) (b' :Int) lim d'.toList))
 (hk:∀(a' b' :Nat) (wb wp:Bool) (d' :Array Org),b' - a' <b - a→a' ≤b' →b' ≤d'.size→d'.size=d.size→Below olt a' b' d' →Sorts a' b' d' (k (a' :Int) (b' :Int) lim wb wp d'.toList)):
 Sorts a b d (xBB N q k (a:Int) (b:Int) lim x10 (p:Int) d.toList):=by
 unfold xBB
 rw [xSt N hp1 hp2 hb (by omega) (by omega) hs hN,Option.bind_some]
 obtain⟨mid,ap,d4,hx⟩:∃mid ap d4,partition olt d a b p=(mid,ap,d4):=⟨_,_,_,rfl⟩
 rw [hx]
 obtain⟨g1,g2,hs4,hBa,hBr,hleft,hright⟩:=round_part xGD (partition_holds olt) hp1 hp2 hb hB hx
 dsimp only
 have w1:i64.wrap ((mid:Int) - (a:Int))=((mid - a:Nat):Int):=wn _ (by omega) (by omega)
 have w2:i64.wrap ((b:Int) - (mid:Int))=((b - mid:Nat):Int):=wn _ (by omega) (by omega)
 have w3:i64.wrap ((mid:Int)+1)=((mid+1:Nat):Int):=wn _ (by omega) (by omega)
 rw [w1,w2,w3]
 cases decide (((mid - a:Nat):Int)<((b - mid:Nat):Int)) with
 |true=>
  rw [jT]
  obtain⟨L,l1,l2,l3⟩:=hq a mid d4 (by omega) g1 (by omega) hs4 hBa
  rw [l1,Option.bind_some]
  obtain⟨hBL,hfin⟩:=hleft L l2 l3
  obtain⟨R,r1,r2,r3⟩:=hk (mid+1) b (decide (((mid - a:Nat):Int)≥i64.wrap (Int.tdiv x10 8))) ap L (by omega) (by omega) (by rw [l2.1];omega) (by rw [l2.1];exact hs4) hBL
  exact⟨R,r1,hfin R r2 r3⟩
 |false=>
  rw [jF]
  obtain⟨L,l1,l2,l3⟩:=hq (mid+1) b d4 (by omega) (by omega) (by omega) hs4 hBr
  rw [l1,Option.bind_some]
  obtain⟨hBL,hfin⟩:=hright L l2 l3
  obtain⟨R,r1,r2,r3⟩:=hk a mid (decide (((b - mid:Nat):Int)≥i64.wrap (Int.tdiv x10 8))) ap L (by omega) g1 (by rw [l2.1];omega) (by rw [l2.1];exact hs4) hBL
  exact⟨R,r1,hfin R r2 r3⟩
theorem xTc(N:Nat){q:Int→Int→Int→List Org→Option (List Org)}{k:Int→Int→Int→Bool→Bool→List Org→Option (List Org)}{a b p:Nat}(lim x10:Int)(wb wp:Bool){d:Array Org}
 (hp1:a≤p) (hp2:p<b) (hb:b≤d.size) (hab:a+12<b) (hs:d.size<1152921504606846976) (hN:d.size<N) (hB:Below olt a b d)
 (hq:∀(a' b' :Nat) (d' :Array Org),b' - a' <b - a→a' ≤b' →b' ≤d'.size→d'.size=d.size→Below olt a' b' d' →Sorts a' b' d' (q (a' :Int) (b' :Int) lim d'.toList))
 (hk:∀(a' b' :Nat) (wb wp:Bool) (d' :Array Org),b' - a' <b - a→a' ≤b' →b' ≤d'.size→d'.size=d.size→Below olt a' b' d' →Sorts a' b' d' (k (a' :Int) (b' :Int) lim wb wp d'.toList)):
 Sorts a b d (xA0 N q k (a:Int) (b:Int) lim wb wp x10 (p:Int) d.toList):=by
 unfold xA0
 by_cases ha:0<a
 ·have e:(decide ((a:Int)>0))=true:=decide_eq_true (by omega)
  have w1:i64.wrap ((a:Int) - 1)=((a - 1:Nat):Int):=wn _ (by omega) (by omega)
  rw [e,cond_true,w1,xDE N rfl rfl (by omega) (by omega)]
  dsimp only
  cases hl:olt d[a - 1]! d[p]! with
  |true=>rw [Bool.not_true,cond_false];exact xTd N lim x10 hp1 hp2 hb hab hs hN hB hq hk
  |false=>
   rw [Bool.not_false,cond_true,xNV N hp1 hp2 hb (by omega) (by omega) hs hN,Option.bind_some]
   obtain⟨mid,d4,hx⟩:∃mid d4,partitionEqual olt d a b p=(mid,d4):=⟨_,_,rfl⟩
   rw [hx]
   obtain⟨g1,g2,hs4,hB4,hfin⟩:=round_eq xGD (partitionEqual_holds olt) ha hp1 hp2 hb hB hl hx
   obtain⟨R,r1,r2,r3⟩:=hk mid b wb wp d4 (by omega) g2 (by omega) hs4 hB4
   exact⟨R,r1,hfin R r2 r3⟩
 ·have e:(decide ((a:Int)>0))=false:=decide_eq_false (by omega)
  rw [e,cond_false];exact xTd N lim x10 hp1 hp2 hb hab hs hN hB hq hk
theorem xTb(N:Nat){q:Int→Int→Int→List Org→Option (List Org)}{k:Int→Int→Int→Bool→Bool→List Org→Option (List Org)}{a b p:Nat}(lim x10 x12:Int)(wb wp:Bool){d:Array Org}
 (hp1:a≤p) (hp2:p<b) (hb:b≤d.size) (hab:a+12<b) (hs:d.size<1152921504606846976) (hN:d.size+10<N) (hB:Below olt a b d)
 (hq:∀(a' b' :Nat) (d' :Array Org),b' - a' <b - a→a' ≤b' →b' ≤d'.size→d'.size=d.size→Below olt a' b' d' →Sorts a' b' d' (q (a' :Int) (b' :Int) lim d'.toList))
 (hk:∀(a' b' :Nat) (wb wp:Bool) (d' :Array Org),b' - a' <b - a→a' ≤b' →b' ≤d'.size→d'.size=d.size→Below olt a' b' d' →Sorts a' b' d' (k (a' :Int) (b' :Int) lim wb wp d'.toList)):
 Sorts a b d (xBA N q k (a:Int) (b:Int) lim wb wp x10 (p:Int) x12 d.toList):=by
 have go:=xTc N lim x10 wb wp hp1 hp2 hb hab hs (by omega) hB hq hk
 unfold xBA
 cases wb with
 |false=>exact go
 |true=>
  cases wp with
  |false=>exact go
  |true=>
   simp only [jT]
   cases (x12:Int)==1 with
   |false=>exact go
   |true=>
    rw [jT,xSv N (by omega) hb (by omega) hs hN,Option.bind_some]
    obtain⟨i1,i2⟩:=partialInsertionSort_holds xGD d a b (by omega) hb hB
    dsimp only
    cases hc:(partialInsertionSort olt d a b).2 with
    |true=>exact⟨_,rfl,i1,i2 hc⟩
    |false=>
     rw [jF]
     refine Sorts.after i1 ?_
     exact xTc N lim x10 true true hp1 hp2 (by rw [i1.1];exact hb) hab (by rw [i1.1];exact hs) (by rw [i1.1];omega) (hB.perm hb i1) (fun a' b' d' g1 g2 g3 g4=>hq a' b' d' g1 g2 g3 (g4.trans i1.1)) (fun a' b' wb wp d' g1 g2 g3 g4=>hk a' b' wb wp d' g1 g2 g3 (g4.trans i1.1))
theorem xTa(N:Nat){q:Int→Int→Int→List Org→Option (List Org)}{k:Int→Int→Int→Bool→Bool→List Org→Option (List Org)}{a b:Nat}(lim x10:Int)(wb wp:Bool){d:Array Org}
 (hb:b≤d.size) (hab:a+12<b) (hs:d.size<1152921504606846976) (hN:d.size+10<N) (hB:Below olt a b d)
 (hq:∀(a' b' :Nat) (d' :Array Org),b' - a' <b - a→a' ≤b' →b' ≤d'.size→d'.size=d.size→Below olt a' b' d' →Sorts a' b' d' (q (a' :Int) (b' :Int) lim d'.toList))
 (hk:∀(a' b' :Nat) (wb wp:Bool) (d' :Array Org),b' - a' <b - a→a' ≤b' →b' ≤d'.size→d'.size=d.size→Below olt a' b' d' →Sorts a' b' d' (k (a' :Int) (b' :Int) lim wb wp d'.toList)):
 Sorts a b d (xBz N q k (a:Int) (b:Int) lim wb wp x10 d.toList):=by
 unfold xBz
 obtain⟨p,h,e,hp1,hp2⟩:=xNq N hab hb hs
 rw [e,Option.bind_some]
 dsimp only
 cases h==(2:Int) with
 |false=>rw [jF];exact xTb N lim x10 h wb wp hp1 hp2 hb hab hs hN hB hq hk
 |true=>
  have i1:=reverseRange_holds d a b (by omega) hb
  have w1:i64.wrap ((b:Int) - 1)=((b - 1:Nat):Int):=wn _ (by omega) (by omega)
  have w2:i64.wrap ((p:Int) - (a:Int))=((p - a:Nat):Int):=wn _ (by omega) (by omega)
  have w3:i64.wrap (((b - 1:Nat):Int) - ((p - a:Nat):Int))=((b - 1 - (p - a):Nat):Int):=wn _ (by omega) (by omega)
  rw [jT,xTf N (by omega) hb (by omega) hs (by omega),Option.bind_some,w1,w2,w3]
  refine Sorts.after i1 ?_
  exact xTb N lim x10 1 wb wp (by omega) (by omega) (by rw [i1.1];exact hb) hab (by rw [i1.1];exact hs) (by rw [i1.1];omega) (hB.perm hb i1) (fun a' b' d' g1 g2 g3 g4=>hq a' b' d' g1 g2 g3 (g4.trans i1.1)) (fun a' b' wb wp d' g1 g2 g3 g4=>hk a' b' wb wp d' g1 g2 g3 (g4.trans i1.1))
theorem pdq3(N:Nat):∀(m a b n dep:Nat) (lim:Int) (wb wp:Bool) (d:Array Org),b - a=m→a≤b→b≤d.size→2≤d.size→d.size<1152921504606846976→m<n→m≤dep→d.size+10<N→Below olt a b d→
 Sorts a b d (xA6 N (xA1 N dep) n (a:Int) (b:Int) lim wb wp d.toList):=by
 intro m
 induction m using Nat.strongRecOn with
 |_ m ih=>
  intro a b n dep lim wb wp d hm hab hb h2 hs hn hdep hN hB
  obtain⟨n,rfl⟩:∃m,n=m+1:=⟨n - 1,by omega⟩
  have w1:i64.wrap ((b:Int) - (a:Int))=((b - a:Nat):Int):=wn _ (by omega) (by omega)
  rw [xA6,w1]
  by_cases h12:b - a≤12
  ·have e:(decide (((b - a:Nat):Int)≤12))=true:=decide_eq_true (by omega)
   rw [e,cond_true,xSH N hab hb h2 hs (by omega),Option.bind_some]
   exact⟨_,rfl,insertionSort_holds xGD d a b hab hb⟩
  ·have e:(decide (((b - a:Nat):Int)≤12))=false:=decide_eq_false (by omega)
   rw [e,cond_false]
   cases (lim==(0:Int)) with
   |true=>
    rw [jT,xPG N (by omega) hb h2 hs (by omega),Option.bind_some]
    exact⟨_,rfl,heapSort_holds xGD d a b hab hb⟩
   |false=>
    rw [jF]
    have hq:∀(lim:Int) (a' b' :Nat) (d' :Array Org),b' - a' <b - a→a' ≤b' →b' ≤d'.size→d'.size=d.size→Below olt a' b' d' →Sorts a' b' d' (xA1 N dep (a' :Int) (b' :Int) lim d'.toList):=by
     intro lim a' b' d' g1 g2 g3 g4 g5
     obtain⟨dep,rfl⟩:∃m,dep=m+1:=⟨dep - 1,by omega⟩
     rw [xA1]
     exact ih (b' - a') (by omega) a' b' N dep lim true true d' rfl g2 g3 (by omega) (by omega) (by omega) (by omega) (by omega) g5
    have hk:∀(lim:Int) (a' b' :Nat) (wb wp:Bool) (d' :Array Org),b' - a' <b - a→a' ≤b' →b' ≤d'.size→d'.size=d.size→Below olt a' b' d' →Sorts a' b' d' (xA6 N (xA1 N dep) n (a' :Int) (b' :Int) lim wb wp d'.toList):=
     fun lim a' b' wb wp d' g1 g2 g3 g4 g5=>ih (b' - a') (by omega) a' b' n dep lim wb wp d' rfl g2 g3 (by omega) (by omega) (by omega) (by omega) (by omega) g5
    cases wb with
    |true=>exact xTa N lim _ true wp hb (by omega) hs hN hB (hq lim) (hk lim)
    |false=>
     obtain⟨d1,e1,i1⟩:=xSA N (a:=a) (b:=b) (d:=d) (by omega) hb hs (by omega)
     rw [Bool.not_false,cond_true,e1,Option.bind_some]
     refine Sorts.after i1 ?_
     exact xTa N _ _ false wp (by rw [i1.1];exact hb) (by omega) (by rw [i1.1];exact hs) (by rw [i1.1];exact hN) (hB.perm hb i1)
      (fun a' b' d' g1 g2 g3 g4=>hq _ a' b' d' g1 g2 g3 (g4.trans i1.1)) (fun a' b' wb wp d' g1 g2 g3 g4=>hk _ a' b' wb wp d' g1 g2 g3 (g4.trans i1.1))
theorem xNW{xs:List Org}(h2:2≤xs.length)(hs:xs.length<1152921504606846976)(lim:Int):
 xCI (xs.length+11) 0 (xs.length:Int) lim xs=some (xs.mergeSort fun x y=> !olt y x):=by
 have h:=pdq3 (xs.length+11) xs.length 0 xs.length (xs.length+11) (xs.length+10) lim true true xs.toArray rfl (Nat.zero_le _) (by simp) (by simpa using h2) (by simpa using hs) (by omega) (by omega) (by simp) (.inl rfl)
 obtain⟨d',e,h1,h3⟩:=h
 have hu:=sorted_unique_holds (lt:=olt) xGD xJN xs.toArray d' (by simpa using h1) (by simpa using h3)
 rw [show xCI (xs.length+11) 0 (xs.length:Int) lim xs=_ from e,hu]
end Go.Ab
end
section
namespace Go.Ab
open Go.Proofs Go.RowKit Go.Shelf
theorem orgT:OrgT Tryz.prog 41 3 48 4 24:=⟨Tryz.underlying41,by kernel_rfl,Tryz.underlying3,Tryz.underlying48,Tryz.zeroValue4,Tryz.underlying24⟩
theorem xUt:(Tryz.prog.info? 41).map (fun i=>(i.zero,i.size,i.bytes))=some (some (.agg #[.int .i64 0,.int .i64 0]),2,16):=by kernel_rfl
set_option maxRecDepth 100000 in
set_option maxHeartbeats 4000000 in
theorem xNc [Inhabited Lb](srt:List Org→List Org)(hsl:∀l,(srt l).length=l.length)(xs ys:List Org)(u v:Value)(w:World)(hu:RowIn w u xs)(hv:RowIn w v ys)(hlen:xs.length+ys.length≤1000000000000)
 (hsort:∀(W:World) (g cap:Nat) (zs:List Org),zs.length≤1000000000000→Below w.heap.size w W→w.heap.size≤g→w.heap.size+1+1≠g→W.heap[w.heap.size+1+1]? =some (.cells #[.slice (some ⟨g,0,none⟩) zs.length cap] 24 (0,0))→OrgRow W g cap zs→
   Calls Tryz.prog 19 #[.iface 24 (.slice (some ⟨g,0,none⟩) zs.length cap),.func (.func 20) #[] #[.pointer (some ⟨w.heap.size+1+1,0,none⟩)]] W fun en W' =>en= .returned (.tuple #[])∧Sorted W (w.heap.size+1+1) g cap zs (srt zs) W'):
 Calls Tryz.prog 6 #[u,v] w fun e w' =>∃br cap,e= .returned (.slice (some ⟨br,0,none⟩) (srt (ded (xs++ys))).length cap)∧Below w.heap.size w w' ∧w.heap.size≤br∧OrgRow w' br cap (srt (ded (xs++ys))):=by
 obtain⟨i0,hi,hz0,hz1,hz2⟩:=info_parts xUt
 have hmm:= @run_makeMap Tryz.prog
 go_enter Tryz.func6,Tryz.ntmps6
 go_wp2_with (first
  |(at_builtin;refine xFY _ orgT rfl _ _ rfl i0 hi hz0 hz1 hz2 rfl (w.heap.size+1+1+1) 0 [] rfl (set4 w _ _ _ 41) u rfl xs (hu.below (xNn w _ _ _ _)) (by simp;omega) ?_;intro g1 c1 w1 r1 gr1 e1)
  |(at_builtin;refine xFY _ orgT rfl _ _ rfl i0 hi hz0 hz1 hz2 rfl g1 c1 ([]++xs) rfl r1 v rfl ys (hv.below (Below.grown (xNn w _ _ _ _) gr1 (by simp;omega) (fun k hk=>by cases hk;omega))) (by simpa using hlen) ?_;intro g2 c2 w2 r2 gr2 e2))
 have hst:=URel.start r2 gr1 e1 gr2 e2
 have hl2:(xs++ys).length=xs.length+ys.length:=List.length_append
 clear r1 gr1 e1 r2 gr2 e2 hu hv
 go_loopw [17] (fun i wr=>∃k g cap:Nat,k≤xs.length+ys.length∧i= .int .i64 k∧URel w 41 24 w.heap.size w2.heap.size g2 c2 (xs++ys) k g cap wr) (fun i _=>xs.length+ys.length - (intOf i).toNat)
 case atStart=>exact⟨0,_,_,Nat.zero_le _,rfl,hst⟩
 case round=>
  obtain⟨k,g,cap,hk,rfl,hr⟩:=hrel
  clear hst
  by_cases hlt:k<xs.length+ys.length
  ·obtain⟨c,hc⟩:∃c,(xs++ys)[k]'(by omega)=c:=⟨_,rfl⟩
   have hc0:wr.cell? ⟨g2,k*2,none⟩=some (.int .i64 c.cell):=by
    have:=hr.all.cell (xIK (xs++ys) k (by omega) 0 (by decide))
    rw [hc] at this
    exact this
   have hc1:wr.cell? ⟨g2,k*2+1,none⟩=some (.int .i64 c.row):=by
    have:=hr.all.cell (xIK (xs++ys) k (by omega) 1 (by decide))
    rw [hc] at this
    exact this
   have hcb:=hr.cell
   have hgl:=hr.row.lt
   have hsz:=hr.size
   have hga:=hr.hga
   have hgg:=hr.hg
   cases hct:(ded ((xs++ys).take k)).contains c with
   |true=>
    go_wp2_with (at_lookup;refine xGV _ orgT rfl _ _ rfl w.heap.size (ded ((xs++ys).take k)) rfl (hr.set.kept (xF9 (by omega))) c rfl true hct ?_)
    go_roundw
    case rel=>exact⟨k+1,g,cap,by omega,by go_num,hr.old (by omega) (by rw [hc];exact hct) _⟩
    case measure=>simp [intOf];omega
   |false=>
    go_wp2_with (first
     |(at_lookup;refine xGV _ orgT rfl _ _ rfl w.heap.size (ded ((xs++ys).take k)) rfl (hr.set.kept (xF9 (by omega))) c rfl false hct ?_)
     |(at_mapUpdate;refine xH7 _ orgT rfl _ _ _ rfl w.heap.size (ded ((xs++ys).take k)) rfl (hr.set.kept (xF9 (by omega))) c rfl rfl hct ?_;intro w3 hs3 hg3 hz3;obtain⟨m1,m2,m3,m4⟩:=hr.mid hg3 hz3)
     |(at_builtin;refine xFY _ orgT rfl _ _ rfl i0 hi hz0 hz1 hz2 rfl g cap (ded ((xs++ys).take k)) rfl (m4 _) (.slice (some ⟨wr.heap.size+1,0,none⟩) 1 1) rfl [c] (by have h:=xNY w3 41 c;rw [hz3,xE5] at h;exact h) (by have:=xPx ((xs++ys).take k);simp at this ⊢;omega) ?_;intro g' cap' w4 r4 g4 e4;obtain⟨n1,n2⟩:=hr.mid4 hg3 hz3 g4))
    go_roundw
    case rel=>exact⟨k+1,g',cap',by omega,by go_num,by
     have:=hr.new (by omega) (by rw [hc];exact hct) (by rw [hc];exact hs3) hg3 hz3 (by rw [hc];exact r4) g4 e4
     rw [hc] at this
     simpa using this⟩
    case measure=>simp [intOf];omega
  ·have hk2:k=(xs++ys).length:=by omega
   have ht:(xs++ys).take k=xs++ys:=by rw [hk2];exact List.take_length
   have hcb:=hr.cell
   have hsz:=hr.size
   have hga:=hr.hga
   have hgg:=hr.hg
   have hs:=hsort wr g cap (ded (xs++ys)) (by have:=xPx (xs++ys);omega) hr.below (by omega) (by omega) (by have:=hr.box;rw [ht] at this;exact this) (by have:=hr.row.org;rw [ht] at this;exact this)
   have hgr:=hr.below
   rw [ht] at hcb
   clear hr hsort
   go_wp2_with (go_at_call 19;refine hs.mono ?_;rintro e W' ⟨rfl,hS⟩;obtain⟨ty',hbx⟩:=hS.box;have hcb2:W'.cell? ⟨w.heap.size+1+1,0,none⟩=some (.slice (some ⟨g,0,none⟩) (ded (xs++ys)).length cap):=by(simp only [World.cell?,hbx];rfl))
   go_ret
   exact⟨g,cap,by rw [hsl];rfl,hgr.trans ⟨hS.os,hS.tape,hS.output,hS.size,fun k hk=>hS.old k (by have:=hgr.size;omega) (by omega) (by omega)⟩,by omega,hS.row⟩
theorem xUu:∀w,(Extern.Rtype.kind 41).run Tryz.prog w= .ok 25 w:=by intro w;kernel_rfl
theorem xUr:(Tryz.prog.info? 24).map (fun i=>i.desc)=some (.slice 41):=by kernel_rfl
theorem xUy:(Tryz.prog.info? 41).map (fun i=>(i.hasPointers,i.bytes))=some (false,16):=by kernel_rfl
theorem xUv:Tryz.prog.packed 24=false:=by kernel_rfl
theorem sw1:Tryz.prog.funcs.findIdx? (·.name== "internal/reflectlite" ++ ".Swapper$1")=some 54:=by kernel_rfl
theorem sw2:Tryz.prog.funcs.findIdx? (·.name== "internal/reflectlite" ++ ".Swapper$2")=some 55:=by kernel_rfl
theorem sw9:Tryz.prog.funcs.findIdx? (·.name== "internal/reflectlite" ++ ".Swapper$9")=some 62:=by kernel_rfl
theorem xPF:typeHandle Tryz.prog 41= .pointer (some ⟨3,41,none⟩):=by kernel_rfl
theorem xPv [Inhabited Lb]{a0 a1 r:List Org}(h:zJr a0 a1=some r):AbsCalls Tryz.prog 6 (xBp a0 a1) (xAk r):=by
 obtain⟨i,hi,hd⟩:=Option.map_eq_some_iff.1 xUr
 obtain⟨ie,hie,he⟩:=Option.map_eq_some_iff.1 xUy
 simp only [Prod.mk.injEq] at he
 refine xNw (enters_of Tryz.func6 (by kernel_rfl) rfl) (fun xs ys u v w hu hv hlen hb=>xNc (fun l=>l.mergeSort fun x y=> !olt y x) (fun l=>by simp) xs ys u v w hu hv hlen fun W g cap zs hz hB hg hne hbo hrow=> ?_) h
 refine xSx Tryz.laysGg6 24 41 i ie hi hd xUv hie 25 xUu he.1 he.2 54 55 62 20 sw1 sw2 sw9 (fun l h2 hl=> ?_) hz hbo hrow hne (fun x hx=> ?_)
 ·rw [xPF]
  exact T.sort_pdqsort_func_cUnionOrigins_1_ok (xNW h2 (by omega) (Lib.bitLen l.length))
 ·obtain⟨b1,b2⟩:=hb x hx
  exact⟨Nat.lt_of_lt_of_le b1 hB.size,by omega,by omega,(hB.block _ b1).trans b2⟩
end Go.Ab
end
