/- The statement FnExactJoinOn holds: plain functions, certificates, laws. Conditions: none. -/
import Derived.Maps.AppendAt
import Derived.Maps.OwnSet
import Derived.Shelf.GgSortFunc.Slice
import Derived.Shelf.GgSortFunc.Tiny
import Derived.Shelf.Small.Bits
import Derived.Sort.AssemblyPlain
import Derived.Test.YtchkdijelkdpaaaGreatChecked
import Derived.Test.YtchkdijelkdpaaaGreatProg
import Derived.Test.YtchkdijelkdpaaaGreatRows
import Derived.WalkKit
import Derived.Test.YtchkdijelkdpaaaGreatL2
set_option linter.all false
section
namespace Go.Ab
abbrev Va(f:Fl)(e:Val):List CV:= [.int .i64 (Val.kind e), .int .i64 (Val.n e), .int .i64 (Val.step e), .str (Val.text e), .sl f .val (Val.list e), .sl f .str (Val.columns e), .sl f .row (Val.rows e)]
end Go.Ab
end
section
namespace Go.Ab
def xEx(a0:Int):List Arg:= [.box [.int .u64 a0]]
def xDe(r:Int × Int):CallO:=⟨.v false [.int .u64 r.1], [[.int .u64 r.2]], []⟩
def xFW(N:Nat)(a0:Int):Option (Int × Int):=some ((xorI .u64 (xorI .u64 (xorI .u64 a0 (IntKind.u64.wrap (a0*2 ^ (Int.toNat 13)))) (Int.fdiv (xorI .u64 a0 (IntKind.u64.wrap (a0*2 ^ (Int.toNat 13)))) ((2:Int) ^ (Int.toNat 7)))) (IntKind.u64.wrap ((xorI .u64 (xorI .u64 a0 (IntKind.u64.wrap (a0*2 ^ (Int.toNat 13)))) (Int.fdiv (xorI .u64 a0 (IntKind.u64.wrap (a0*2 ^ (Int.toNat 13)))) ((2:Int) ^ (Int.toNat 7))))*2 ^ (Int.toNat 17)))),(xorI .u64 (xorI .u64 (xorI .u64 a0 (IntKind.u64.wrap (a0*2 ^ (Int.toNat 13)))) (Int.fdiv (xorI .u64 a0 (IntKind.u64.wrap (a0*2 ^ (Int.toNat 13)))) ((2:Int) ^ (Int.toNat 7)))) (IntKind.u64.wrap ((xorI .u64 (xorI .u64 a0 (IntKind.u64.wrap (a0*2 ^ (Int.toNat 13)))) (Int.fdiv (xorI .u64 a0 (IntKind.u64.wrap (a0*2 ^ (Int.toNat 13)))) ((2:Int) ^ (Int.toNat 7))))*2 ^ (Int.toNat 17)))))
def xLl(a0:Int):List Arg:= [.val (.v false [.int .u64 a0])]
def xJe(r:Int):CallO:=⟨.v false [.int .i64 r], [], []⟩
def xK9(N:Nat)(a0:Int):Option Int:=zFJ a0
def xFy(a0:Int):List Arg:= [.val (.v false [.int .i64 a0])]
def xEd(r:Int):CallO:=⟨.v false [.int .u64 r], [], []⟩
def xFq(N:Nat)(a0:Int):Option (Int):=(xK9 N (IntKind.u64.wrap (a0))).bind fun r1=>if(0:Int)≤(IntKind.u64.wrap (r1))∧(IntKind.u64.wrap (r1))<64 then some (IntKind.u64.wrap (1*2 ^ (Int.toNat (IntKind.u64.wrap (r1))))) else none
def xAy(a0 a1:Int)(a2:List Org):List Arg:= [.val (.v false [.int .i64 a0]), .val (.v false [.int .i64 a1]), .val (.v false [.sl (.lnt 0) .org a2]), .val (.v false [.val (.pointer (some ⟨0,80,none⟩))])]
def xAg(r:(List Org)):CallO:=⟨.tup [], [], [.sl (.lnt 0) .org r]⟩
def xAo(N:Nat)(a0 a1:Int)(a2:List Org):Option (List Org):=zI8 a0 a1 a2
def xCs(a0:Int)(a1:Int)(a2:List Org):List Arg:= [.val (.v true [.clo 64 [1000003], .swp 141 0 (.pointer (some ⟨0,80,none⟩)) 1000003]), .val (.v false [.int .i64 a0]), .val (.v false [.int .i64 a1]), .gbox [.sl (.lnt 0) .org a2]]
def xBy(r:(List Org)):CallO:=⟨.tup [], [[.sl (.lnt 0) .org r]], []⟩
def xBx(N:Nat):Nat→Int→Int→(List Org)→Option ((List Org))
 |0,_,_,_=>none
 |n+1,x6,x7,b1000003=>bif(decide (x6<x7)) then((xAo N x6 x7 b1000003).bind fun r1=>if 2≤List.length b1000003 then if List.length r1=List.length b1000003 then(xBx N n (IntKind.i64.wrap (x6+1)) (IntKind.i64.wrap (x7 - 1)) r1) else none else none) else(some b1000003)
def xB8(N:Nat)(a0:Int)(a1:Int)(a2:List Org):Option ((List Org)):=(xBx N N a0 (IntKind.i64.wrap (a1 - 1)) a2)
def xBU(a0:Int)(a1:Int)(a2:List Org):List Arg:= [.val (.v true [.clo 64 [1000003], .swp 141 0 (.pointer (some ⟨0,80,none⟩)) 1000003]), .val (.v false [.int .i64 a0]), .val (.v false [.int .i64 a1]), .gbox [.sl (.lnt 0) .org a2]]
def xBb(r:(List Org)):CallO:=⟨.tup [], [[.sl (.lnt 0) .org r]], []⟩
def xBa(N:Nat):Nat→Int→Int→Int→Int→Int→(List Org)→Option ((List Org))
 |0,_,_,_,_,_,_=>none
 |n+1,x1,x6,x8,x9,b7,b1000003=>bif(decide (x9≤(IntKind.i64.wrap ((IntKind.i64.wrap (x1+(IntKind.i64.wrap ((IntKind.i64.wrap (Int.tdiv x6 4))*2))))+1)))) then((xFW N b7).bind fun r1=>bif(decide (((IntKind.i64.wrap ((andI .u64 r1.1 (IntKind.u64.wrap (x8 - 1))))):Int)≥x6)) then((xAo N x9 (IntKind.i64.wrap (x1+(IntKind.i64.wrap ((IntKind.i64.wrap ((andI .u64 r1.1 (IntKind.u64.wrap (x8 - 1))))) - x6)))) b1000003).bind fun r2=>if 2≤List.length b1000003 then if List.length r2=List.length b1000003 then(xBa N n x1 x6 x8 (IntKind.i64.wrap (x9+1)) r1.2 r2) else none else none) else((xAo N x9 (IntKind.i64.wrap (x1+(IntKind.i64.wrap ((andI .u64 r1.1 (IntKind.u64.wrap (x8 - 1))))))) b1000003).bind fun r2=>if 2≤List.length b1000003 then if List.length r2=List.length b1000003 then(xBa N n x1 x6 x8 (IntKind.i64.wrap (x9+1)) r1.2 r2) else none else none)) else(some b1000003)
def xB3(N:Nat)(a0:Int)(a1:Int)(a2:List Org):Option ((List Org)):=bif(decide ((IntKind.i64.wrap (a1 - a0))≥8)) then((xFq N (IntKind.i64.wrap (a1 - a0))).bind fun r1=>(xBa N N a0 (IntKind.i64.wrap (a1 - a0)) r1 (IntKind.i64.wrap ((IntKind.i64.wrap (a0+(IntKind.i64.wrap ((IntKind.i64.wrap (Int.tdiv (IntKind.i64.wrap (a1 - a0)) 4))*2)))) - 1)) (IntKind.u64.wrap ((IntKind.i64.wrap (a1 - a0)))) a2)) else(some a2)
def xC4(a0:Org)(a1:Org):List Arg:= [.val (.v true [.int .i64 (Org.cell a0), .int .i64 (Org.row a0)]), .val (.v true [.int .i64 (Org.cell a1), .int .i64 (Org.row a1)])]
def xCb(r:Bool):CallO:=⟨.v false [.bool r], [], []⟩
def xEh(N:Nat)(a0:Org)(a1:Org):Option (Bool):=bif(decide ((Org.cell a0)<(Org.cell a1))) then(some true) else(bif((Org.cell a0)==(Org.cell a1)) then(some (decide ((Org.row a0)<(Org.row a1)))) else(some false))
def xBn(a0:Int)(a1:Int)(a2:List Org):List Arg:= [.val (.v false [.int .i64 a0]), .val (.v false [.int .i64 a1]), .box [.sl (.lnt 0) .org a2]]
def xAl(r:Bool × (List Org)):CallO:=⟨.v false [.bool r.1], [[.sl (.lnt 0) .org r.2]], []⟩
def xAR(N:Nat)(a0:Int)(a1:Int)(a2:List Org):Option (Bool × (List Org)):=if(0:Int)≤a0∧a0<(List.length a2) then if(0:Int)≤a1∧a1<(List.length a2) then(xEh N (List.getD a2 (Int.toNat a0) Ty.org.dflt) (List.getD a2 (Int.toNat a1) Ty.org.dflt)).bind fun r1=>some (r1,a2) else none else none
def xB7(a0:Int)(a1:Int)(a2:Int)(a3:List Org):List Arg:= [.val (.v true [.clo 64 [1000004], .swp 141 0 (.pointer (some ⟨0,80,none⟩)) 1000004]), .val (.v false [.int .i64 a0]), .val (.v false [.int .i64 a1]), .val (.v false [.int .i64 a2]), .gbox [.sl (.lnt 0) .org a3]]
def xAz(r:Int × Bool × (List Org)):CallO:=⟨.tup [(false, [.int .i64 r.1]),(false, [.bool r.2.1])], [[.sl (.lnt 0) .org r.2.2]], []⟩
def xA5(N:Nat)(k13:Int→Int→Int→(List Org)→Option (Int × Bool × (List Org))):Nat→Int→Int→Int→(List Org)→Option (Int × Bool × (List Org))
 |0,_,_,_,_=>none
 |n+1,x1,x10,x11,b1000004=>bif(decide (x10≤x11)) then((xAR N x11 x1 b1000004).bind fun r1=>bif(!r1.1) then((xA5 N k13 n x1 x10 (IntKind.i64.wrap (x11 - 1)) r1.2)) else(bif(decide (x10>x11)) then((xAo N x11 x1 r1.2).bind fun r2=>if 2≤List.length r1.2 then if List.length r2=List.length r1.2 then some (x11,false,r2) else none else none) else((xAo N x10 x11 r1.2).bind fun r2=>if 2≤List.length r1.2 then if List.length r2=List.length r1.2 then(k13 x1 (IntKind.i64.wrap (x10+1)) (IntKind.i64.wrap (x11 - 1)) r2) else none else none))) else(bif(decide (x10>x11)) then((xAo N x11 x1 b1000004).bind fun r1=>if 2≤List.length b1000004 then if List.length r1=List.length b1000004 then some (x11,false,r1) else none else none) else((xAo N x10 x11 b1000004).bind fun r1=>if 2≤List.length b1000004 then if List.length r1=List.length b1000004 then(k13 x1 (IntKind.i64.wrap (x10+1)) (IntKind.i64.wrap (x11 - 1)) r1) else none else none))
def xAO(N:Nat):Nat→Int→Int→Int→(List Org)→Option (Int × Bool × (List Org))
 |0,_,_,_,_=>none
 |n+1,x1,x10,x11,b1000004=>bif(decide (x10≤x11)) then((xAR N x10 x1 b1000004).bind fun r1=>bif r1.1 then((xAO N n x1 (IntKind.i64.wrap (x10+1)) x11 r1.2)) else((xA5 N (fun z0 z1 z2 z3=>(xAO N n z0 z1 z2 z3)) N x1 x10 x11 r1.2))) else((xA5 N (fun z0 z1 z2 z3=>(xAO N n z0 z1 z2 z3)) N x1 x10 x11 b1000004))
def xA9(N:Nat):Nat→Int→Int→Int→(List Org)→Option (Int × Bool × (List Org))
 |0,_,_,_,_=>none
 |n+1,x1,x10,x11,b1000004=>bif(decide (x10≤x11)) then((xAR N x11 x1 b1000004).bind fun r1=>bif(!r1.1) then((xA9 N n x1 x10 (IntKind.i64.wrap (x11 - 1)) r1.2)) else(bif(decide (x10>x11)) then((xAo N x11 x1 r1.2).bind fun r2=>if 2≤List.length r1.2 then if List.length r2=List.length r1.2 then some (x11,true,r2) else none else none) else((xAo N x10 x11 r1.2).bind fun r2=>if 2≤List.length r1.2 then if List.length r2=List.length r1.2 then(xAO N N x1 (IntKind.i64.wrap (x10+1)) (IntKind.i64.wrap (x11 - 1)) r2) else none else none))) else(bif(decide (x10>x11)) then((xAo N x11 x1 b1000004).bind fun r1=>if 2≤List.length b1000004 then if List.length r1=List.length b1000004 then some (x11,true,r1) else none else none) else((xAo N x10 x11 b1000004).bind fun r1=>if 2≤List.length b1000004 then if List.length r1=List.length b1000004 then(xAO N N x1 (IntKind.i64.wrap (x10+1)) (IntKind.i64.wrap (x11 - 1)) r1) else none else none))
def xBH(N:Nat):Nat→Int→Int→Int→(List Org)→Option (Int × Bool × (List Org))
 |0,_,_,_,_=>none
 |n+1,x1,x10,x11,b1000004=>bif(decide (x10≤x11)) then((xAR N x10 x1 b1000004).bind fun r1=>bif r1.1 then((xBH N n x1 (IntKind.i64.wrap (x10+1)) x11 r1.2)) else((xA9 N N x1 x10 x11 r1.2))) else((xA9 N N x1 x10 x11 b1000004))
def xCp(N:Nat)(a0:Int)(a1:Int)(a2:Int)(a3:List Org):Option (Int × Bool × (List Org)):=(xAo N a0 a2 a3).bind fun r1=>if 2≤List.length a3 then if List.length r1=List.length a3 then(xBH N N a0 (IntKind.i64.wrap (a0+1)) (IntKind.i64.wrap (a1 - 1)) r1) else none else none
def xCh(a0:Int)(a1:Int)(a2:Int)(a3:List Org):List Arg:= [.val (.v true [.clo 64 [1000004], .swp 141 0 (.pointer (some ⟨0,80,none⟩)) 1000004]), .val (.v false [.int .i64 a0]), .val (.v false [.int .i64 a1]), .val (.v false [.int .i64 a2]), .gbox [.sl (.lnt 0) .org a3]]
def xAM(r:Int × (List Org)):CallO:=⟨.v false [.int .i64 r.1], [[.sl (.lnt 0) .org r.2]], []⟩
def xAW(N:Nat)(k3:Int→Int→Int→(List Org)→Option (Int × (List Org))):Nat→Int→Int→Int→(List Org)→Option (Int × (List Org))
 |0,_,_,_,_=>none
 |n+1,x1,x9,x10,b1000004=>bif(decide (x9≤x10)) then((xAR N x1 x10 b1000004).bind fun r1=>bif r1.1 then((xAW N k3 n x1 x9 (IntKind.i64.wrap (x10 - 1)) r1.2)) else(bif(decide (x9>x10)) then(some (x9,r1.2)) else((xAo N x9 x10 r1.2).bind fun r2=>if 2≤List.length r1.2 then if List.length r2=List.length r1.2 then(k3 x1 (IntKind.i64.wrap (x9+1)) (IntKind.i64.wrap (x10 - 1)) r2) else none else none))) else(bif(decide (x9>x10)) then(some (x9,b1000004)) else((xAo N x9 x10 b1000004).bind fun r1=>if 2≤List.length b1000004 then if List.length r1=List.length b1000004 then(k3 x1 (IntKind.i64.wrap (x9+1)) (IntKind.i64.wrap (x10 - 1)) r1) else none else none))
def xAV(N:Nat):Nat→Int→Int→Int→(List Org)→Option (Int × (List Org))
 |0,_,_,_,_=>none
 |n+1,x1,x9,x10,b1000004=>bif(decide (x9≤x10)) then((xAR N x1 x9 b1000004).bind fun r1=>bif(!r1.1) then((xAV N n x1 (IntKind.i64.wrap (x9+1)) x10 r1.2)) else((xAW N (fun z0 z1 z2 z3=>(xAV N n z0 z1 z2 z3)) N x1 x9 x10 r1.2))) else((xAW N (fun z0 z1 z2 z3=>(xAV N n z0 z1 z2 z3)) N x1 x9 x10 b1000004))
def xB0(N:Nat)(a0:Int)(a1:Int)(a2:Int)(a3:List Org):Option (Int × (List Org)):=(xAo N a0 a2 a3).bind fun r1=>if 2≤List.length a3 then if List.length r1=List.length a3 then(xAV N N a0 (IntKind.i64.wrap (a0+1)) (IntKind.i64.wrap (a1 - 1)) r1) else none else none
def xBp(a0:Int)(a1:Int)(a2:List Org):List Arg:= [.val (.v true [.clo 64 [1000003], .swp 141 0 (.pointer (some ⟨0,80,none⟩)) 1000003]), .val (.v false [.int .i64 a0]), .val (.v false [.int .i64 a1]), .gbox [.sl (.lnt 0) .org a2]]
def xAm(r:Bool × (List Org)):CallO:=⟨.v false [.bool r.1], [[.sl (.lnt 0) .org r.2]], []⟩
def xA3(N:Nat)(k3:Int→Int→Int→Int→(List Org)→Option (Bool × (List Org))):Nat→Int→Int→Int→Int→Int→(List Org)→Option (Bool × (List Org))
 |0,_,_,_,_,_,_=>none
 |n+1,x1,x2,x7,x8,x10,b1000003=>bif(decide (x10<x2)) then((xAR N x10 (IntKind.i64.wrap (x10 - 1)) b1000003).bind fun r1=>bif(!r1.1) then((k3 x1 x2 x7 (IntKind.i64.wrap (x8+1)) r1.2)) else((xAo N x10 (IntKind.i64.wrap (x10 - 1)) r1.2).bind fun r2=>if 2≤List.length r1.2 then if List.length r2=List.length r1.2 then(xA3 N k3 n x1 x2 x7 x8 (IntKind.i64.wrap (x10+1)) r2) else none else none)) else((k3 x1 x2 x7 (IntKind.i64.wrap (x8+1)) b1000003))
def xAQ(N:Nat)(k3:Int→Int→Int→Int→(List Org)→Option (Bool × (List Org)))(x1:Int)(x2:Int)(x7:Int)(x8:Int)(b1000003:List Org):Option (Bool × (List Org)):=bif(decide ((IntKind.i64.wrap (x2 - x7))≥2)) then((xA3 N k3 N x1 x2 x7 x8 (IntKind.i64.wrap (x7+1)) b1000003)) else((k3 x1 x2 x7 (IntKind.i64.wrap (x8+1)) b1000003))
def xA2(N:Nat)(k3:Int→Int→Int→Int→(List Org)→Option (Bool × (List Org))):Nat→Int→Int→Int→Int→Int→(List Org)→Option (Bool × (List Org))
 |0,_,_,_,_,_,_=>none
 |n+1,x1,x2,x7,x8,x9,b1000003=>bif(decide (x9≥1)) then((xAR N x9 (IntKind.i64.wrap (x9 - 1)) b1000003).bind fun r1=>bif(!r1.1) then((xAQ N k3 x1 x2 x7 x8 r1.2)) else((xAo N x9 (IntKind.i64.wrap (x9 - 1)) r1.2).bind fun r2=>if 2≤List.length r1.2 then if List.length r2=List.length r1.2 then(xA2 N k3 n x1 x2 x7 x8 (IntKind.i64.wrap (x9 - 1)) r2) else none else none)) else((xAQ N k3 x1 x2 x7 x8 b1000003))
def xA7(N:Nat)(k3:Int→Int→Int→Int→(List Org)→Option (Bool × (List Org)))(x1:Int)(x2:Int)(x7:Int)(x8:Int)(b1000003:List Org):Option (Bool × (List Org)):=bif(x7==x2) then(some (true,b1000003)) else(bif(decide ((IntKind.i64.wrap (x2 - x1))<50)) then(some (false,b1000003)) else((xAo N x7 (IntKind.i64.wrap (x7 - 1)) b1000003).bind fun r1=>if 2≤List.length b1000003 then if List.length r1=List.length b1000003 then bif(decide ((IntKind.i64.wrap (x7 - x1))≥2)) then((xA2 N k3 N x1 x2 x7 x8 (IntKind.i64.wrap (x7 - 1)) r1)) else((xAQ N k3 x1 x2 x7 x8 r1)) else none else none))
def xA6(N:Nat)(k3:Int→Int→Int→Int→(List Org)→Option (Bool × (List Org))):Nat→Int→Int→Int→Int→(List Org)→Option (Bool × (List Org))
 |0,_,_,_,_,_=>none
 |n+1,x1,x2,x7,x8,b1000003=>bif(decide (x7<x2)) then((xAR N x7 (IntKind.i64.wrap (x7 - 1)) b1000003).bind fun r1=>bif(!r1.1) then((xA6 N k3 n x1 x2 (IntKind.i64.wrap (x7+1)) x8 r1.2)) else((xA7 N k3 x1 x2 x7 x8 r1.2))) else((xA7 N k3 x1 x2 x7 x8 b1000003))
def xAS(N:Nat):Nat→Int→Int→Int→Int→(List Org)→Option (Bool × (List Org))
 |0,_,_,_,_,_=>none
 |n+1,x1,x2,x7,x8,b1000003=>bif(decide (x8<5)) then((xA6 N (fun z0 z1 z2 z3 z4=>(xAS N n z0 z1 z2 z3 z4)) N x1 x2 x7 x8 b1000003)) else(some (false,b1000003))
def xBB(N:Nat)(a0:Int)(a1:Int)(a2:List Org):Option (Bool × (List Org)):=(xAS N N a0 a1 (IntKind.i64.wrap (a0+1)) 0 a2)
def xBD(a0:Int)(a1:Int)(a2:Int)(a3:List Org):List Arg:= [.val (.v true [.clo 64 [1000004], .swp 141 0 (.pointer (some ⟨0,80,none⟩)) 1000004]), .val (.v false [.int .i64 a0]), .val (.v false [.int .i64 a1]), .box [.int .i64 a2], .gbox [.sl (.lnt 0) .org a3]]
def xAX(r:Int × Int × Int × (List Org)):CallO:=⟨.tup [(false, [.int .i64 r.1]),(false, [.int .i64 r.2.1])], [[.int .i64 r.2.2.1], [.sl (.lnt 0) .org r.2.2.2]], []⟩
def xBW(N:Nat)(a0:Int)(a1:Int)(a2:Int)(a3:List Org):Option (Int × Int × Int × (List Org)):=(xAR N a1 a0 a3).bind fun r1=>bif r1.1 then(some (a1,a0,(IntKind.i64.wrap (a2+1)),r1.2)) else(some (a0,a1,a2,r1.2))
def xBm(a0:Int)(a1:Int)(a2:Int)(a3:Int)(a4:List Org):List Arg:= [.val (.v true [.clo 64 [1000005], .swp 141 0 (.pointer (some ⟨0,80,none⟩)) 1000005]), .val (.v false [.int .i64 a0]), .val (.v false [.int .i64 a1]), .val (.v false [.int .i64 a2]), .box [.int .i64 a3], .gbox [.sl (.lnt 0) .org a4]]
def xAF(r:Int × Int × (List Org)):CallO:=⟨.v false [.int .i64 r.1], [[.int .i64 r.2.1], [.sl (.lnt 0) .org r.2.2]], []⟩
def xBV(N:Nat)(a0:Int)(a1:Int)(a2:Int)(a3:Int)(a4:List Org):Option (Int × Int × (List Org)):=(xBW N a0 a1 a3 a4).bind fun r1=>(xBW N r1.2.1 a2 r1.2.2.1 r1.2.2.2).bind fun r2=>(xBW N r1.1 r2.1 r2.2.2.1 r2.2.2.2).bind fun r3=>some (r3.2.1,r3.2.2.1,r3.2.2.2)
def xBo(a0:Int)(a1:Int)(a2:List Org):List Arg:= [.val (.v true [.clo 64 [1000003], .swp 141 0 (.pointer (some ⟨0,80,none⟩)) 1000003]), .val (.v false [.int .i64 a0]), .box [.int .i64 a1], .gbox [.sl (.lnt 0) .org a2]]
def xAu(r:Int × Int × (List Org)):CallO:=⟨.v false [.int .i64 r.1], [[.int .i64 r.2.1], [.sl (.lnt 0) .org r.2.2]], []⟩
def xBh(N:Nat)(a0:Int)(a1:Int)(a2:List Org):Option (Int × Int × (List Org)):=(xBV N (IntKind.i64.wrap (a0 - 1)) a0 (IntKind.i64.wrap (a0+1)) a1 a2).bind fun r1=>some (r1.1,r1.2.1,r1.2.2)
def xAE(a0:Int)(a1:Int)(a2:List Org):List Arg:= [.val (.v true [.clo 64 [1000003], .swp 141 0 (.pointer (some ⟨0,80,none⟩)) 1000003]), .val (.v false [.int .i64 a0]), .val (.v false [.int .i64 a1]), .gbox [.sl (.lnt 0) .org a2]]
def xAw(r:Int × Int × (List Org)):CallO:=⟨.tup [(false, [.int .i64 r.1]),(false, [.int .i64 r.2.1])], [[.sl (.lnt 0) .org r.2.2]], []⟩
def xCc(N:Nat)(a0:Int)(a1:Int)(a2:List Org):Option (Int × Int × (List Org)):=bif(decide ((IntKind.i64.wrap (a1 - a0))≥8)) then(bif(decide ((IntKind.i64.wrap (a1 - a0))≥50)) then((xBh N (IntKind.i64.wrap (a0+(IntKind.i64.wrap ((IntKind.i64.wrap (Int.tdiv (IntKind.i64.wrap (a1 - a0)) 4))*1)))) 0 a2).bind fun r1=>(xBh N (IntKind.i64.wrap (a0+(IntKind.i64.wrap ((IntKind.i64.wrap (Int.tdiv (IntKind.i64.wrap (a1 - a0)) 4))*2)))) r1.2.1 r1.2.2).bind fun r2=>(xBh N (IntKind.i64.wrap (a0+(IntKind.i64.wrap ((IntKind.i64.wrap (Int.tdiv (IntKind.i64.wrap (a1 - a0)) 4))*3)))) r2.2.1 r2.2.2).bind fun r3=>(xBV N r1.1 r2.1 r3.1 r3.2.1 r3.2.2).bind fun r4=>bif(r4.2.1==0) then(some (r4.1,1,r4.2.2)) else(bif(r4.2.1==12) then(some (r4.1,2,r4.2.2)) else(some (r4.1,0,r4.2.2)))) else((xBV N (IntKind.i64.wrap (a0+(IntKind.i64.wrap ((IntKind.i64.wrap (Int.tdiv (IntKind.i64.wrap (a1 - a0)) 4))*1)))) (IntKind.i64.wrap (a0+(IntKind.i64.wrap ((IntKind.i64.wrap (Int.tdiv (IntKind.i64.wrap (a1 - a0)) 4))*2)))) (IntKind.i64.wrap (a0+(IntKind.i64.wrap ((IntKind.i64.wrap (Int.tdiv (IntKind.i64.wrap (a1 - a0)) 4))*3)))) 0 a2).bind fun r1=>bif(r1.2.1==0) then(some (r1.1,1,r1.2.2)) else(bif(r1.2.1==12) then(some (r1.1,2,r1.2.2)) else(some (r1.1,0,r1.2.2))))) else(bif((0:Int)==0) then(some ((IntKind.i64.wrap (a0+(IntKind.i64.wrap ((IntKind.i64.wrap (Int.tdiv (IntKind.i64.wrap (a1 - a0)) 4))*2)))),1,a2)) else(bif((0:Int)==12) then(some ((IntKind.i64.wrap (a0+(IntKind.i64.wrap ((IntKind.i64.wrap (Int.tdiv (IntKind.i64.wrap (a1 - a0)) 4))*2)))),2,a2)) else(some ((IntKind.i64.wrap (a0+(IntKind.i64.wrap ((IntKind.i64.wrap (Int.tdiv (IntKind.i64.wrap (a1 - a0)) 4))*2)))),0,a2)
     )))
def xCg(a0:Int)(a1:Int)(a2:Int)(a3:List Org):List Arg:= [.val (.v true [.clo 64 [1000004], .swp 141 0 (.pointer (some ⟨0,80,none⟩)) 1000004]), .val (.v false [.int .i64 a0]), .val (.v false [.int .i64 a1]), .val (.v false [.int .i64 a2]), .gbox [.sl (.lnt 0) .org a3]]
def xAJ(r:(List Org)):CallO:=⟨.tup [], [[.sl (.lnt 0) .org r]], []⟩
def xBc(N:Nat):Nat→Int→Int→Int→(List Org)→Option ((List Org))
 |0,_,_,_,_=>none
 |n+1,x2,x3,x8,b1000004=>bif(decide (((IntKind.i64.wrap ((IntKind.i64.wrap (2*x8))+1)):Int)≥x2)) then(some b1000004) else(bif(decide (((IntKind.i64.wrap ((IntKind.i64.wrap ((IntKind.i64.wrap (2*x8))+1))+1)):Int)<x2)) then((xAR N (IntKind.i64.wrap (x3+(IntKind.i64.wrap ((IntKind.i64.wrap (2*x8))+1)))) (IntKind.i64.wrap ((IntKind.i64.wrap (x3+(IntKind.i64.wrap ((IntKind.i64.wrap (2*x8))+1))))+1)) b1000004).bind fun r1=>bif r1.1 then((xAR N (IntKind.i64.wrap (x3+x8)) (IntKind.i64.wrap (x3+(IntKind.i64.wrap ((IntKind.i64.wrap ((IntKind.i64.wrap (2*x8))+1))+1)))) r1.2).bind fun r2=>bif(!r2.1) then(some r2.2) else((xAo N (IntKind.i64.wrap (x3+x8)) (IntKind.i64.wrap (x3+(IntKind.i64.wrap ((IntKind.i64.wrap ((IntKind.i64.wrap (2*x8))+1))+1)))) r2.2).bind fun r3=>if 2≤List.length r2.2 then if List.length r3=List.length r2.2 then(xBc N n x2 x3 (IntKind.i64.wrap ((IntKind.i64.wrap ((IntKind.i64.wrap (2*x8))+1))+1)) r3) else none else none)) else((xAR N (IntKind.i64.wrap (x3+x8)) (IntKind.i64.wrap (x3+(IntKind.i64.wrap ((IntKind.i64.wrap (2*x8))+1)))) r1.2).bind fun r2=>bif(!r2.1) then(some r2.2) else((xAo N (IntKind.i64.wrap (x3+x8)) (IntKind.i64.wrap (x3+(IntKind.i64.wrap ((IntKind.i64.wrap (2*x8))+1)))) r2.2).bind fun r3=>if 2≤List.length r2.2 then if List.length r3=List.length r2.2 then(xBc N n x2 x3 (IntKind.i64.wrap ((IntKind.i64.wrap (2*x8))+1)) r3) else none else none))) else((xAR N (IntKind.i64.wrap (x3+x8)) (IntKind.i64.wrap (x3+(IntKind.i64.wrap ((IntKind.i64.wrap (2*x8))+1)))) b1000004).bind fun r1=>bif(!r1.1) then(some r1.2) else((xAo N (IntKind.i64.wrap (x3+x8)) (IntKind.i64.wrap (x3+(IntKind.i64.wrap ((IntKind.i64.wrap (2*x8))+1)))) r1.2).bind fun r2 =>
      if 2≤List.length r1.2 then if List.length r2=List.length r1.2 then(xBc N n x2 x3 (IntKind.i64.wrap ((IntKind.i64.wrap (2*x8))+1)) r2) else none else none)))
def xBE(N:Nat)(a0:Int)(a1:Int)(a2:Int)(a3:List Org):Option ((List Org)):=(xBc N N a1 a2 a0 a3)
def xCI(a0:Int)(a1:Int)(a2:List Org):List Arg:= [.val (.v true [.clo 64 [1000003], .swp 141 0 (.pointer (some ⟨0,80,none⟩)) 1000003]), .val (.v false [.int .i64 a0]), .val (.v false [.int .i64 a1]), .gbox [.sl (.lnt 0) .org a2]]
def xBt(r:(List Org)):CallO:=⟨.tup [], [[.sl (.lnt 0) .org r]], []⟩
def xBP(N:Nat):Nat→Int→Int→Int→(List Org)→Option ((List Org))
 |0,_,_,_,_=>none
 |n+1,x6,x7,x10,b1000003=>bif(decide (x10≥0)) then((xAo N x6 (IntKind.i64.wrap (x6+x10)) b1000003).bind fun r1=>if 2≤List.length b1000003 then if List.length r1=List.length b1000003 then(xBE N x7 x10 x6 r1).bind fun r2=>(xBP N n x6 x7 (IntKind.i64.wrap (x10 - 1)) r2) else none else none) else(some b1000003)
def xBO(N:Nat):Nat→Int→Int→Int→Int→(List Org)→Option ((List Org))
 |0,_,_,_,_,_=>none
 |n+1,x6,x7,x8,x9,b1000003=>bif(decide (x9≥0)) then((xBE N x9 x8 x6 b1000003).bind fun r1=>(xBO N n x6 x7 x8 (IntKind.i64.wrap (x9 - 1)) r1)) else((xBP N N x6 x7 (IntKind.i64.wrap (x8 - 1)) b1000003))
def xCw(N:Nat)(a0:Int)(a1:Int)(a2:List Org):Option ((List Org)):=(xBO N N a0 0 (IntKind.i64.wrap (a1 - a0)) (IntKind.i64.wrap (Int.tdiv (IntKind.i64.wrap ((IntKind.i64.wrap (a1 - a0)) - 1)) 2)) a2)
def xCn(a0:Int)(a1:Int)(a2:List Org):List Arg:= [.val (.v true [.clo 64 [1000003], .swp 141 0 (.pointer (some ⟨0,80,none⟩)) 1000003]), .val (.v false [.int .i64 a0]), .val (.v false [.int .i64 a1]), .gbox [.sl (.lnt 0) .org a2]]
def xAY(r:(List Org)):CallO:=⟨.tup [], [[.sl (.lnt 0) .org r]], []⟩
def xBr(N:Nat)(k2:Int→Int→Int→(List Org)→Option ((List Org))):Nat→Int→Int→Int→Int→(List Org)→Option ((List Org))
 |0,_,_,_,_,_=>none
 |n+1,x1,x2,x6,x7,b1000003=>bif(decide (x7>x1)) then((xAR N x7 (IntKind.i64.wrap (x7 - 1)) b1000003).bind fun r1=>bif r1.1 then((xAo N x7 (IntKind.i64.wrap (x7 - 1)) r1.2).bind fun r2=>if 2≤List.length r1.2 then if List.length r2=List.length r1.2 then(xBr N k2 n x1 x2 x6 (IntKind.i64.wrap (x7 - 1)) r2) else none else none) else((k2 x1 x2 (IntKind.i64.wrap (x6+1)) r1.2))) else((k2 x1 x2 (IntKind.i64.wrap (x6+1)) b1000003))
def xBq(N:Nat):Nat→Int→Int→Int→(List Org)→Option ((List Org))
 |0,_,_,_,_=>none
 |n+1,x1,x2,x6,b1000003=>bif(decide (x6<x2)) then((xBr N (fun z0 z1 z2 z3=>(xBq N n z0 z1 z2 z3)) N x1 x2 x6 x6 b1000003)) else(some b1000003)
def xB4(N:Nat)(a0:Int)(a1:Int)(a2:List Org):Option ((List Org)):=(xBq N N a0 a1 (IntKind.i64.wrap (a0+1)) a2)
def xBz(a0:Int)(a1:Int)(a2:Int)(a3:List Org):List Arg:= [.val (.v true [.clo 64 [1000004], .swp 141 0 (.pointer (some ⟨0,80,none⟩)) 1000004]), .val (.v false [.int .i64 a0]), .val (.v false [.int .i64 a1]), .val (.v false [.int .i64 a2]), .gbox [.sl (.lnt 0) .org a3]]
def xAr(r:(List Org)):CallO:=⟨.tup [], [[.sl (.lnt 0) .org r]], []⟩
def xCf(N:Nat)(q0:Int→Int→Int→(List Org)→Option ((List Org)))(k3:Int→Int→Int→Bool→Bool→(List Org)→Option ((List Org)))(x1:Int)(x2:Int)(x3:Int)(x10:Int)(x11:Int)(b1000004:List Org):Option ((List Org)):=(xCp N x1 x2 x11 b1000004).bind fun r1=>bif(decide ((IntKind.i64.wrap (r1.1 - x1))<(IntKind.i64.wrap (x2 - r1.1)))) then((q0 x1 r1.1 x3 r1.2.2).bind fun r2=>(k3 (IntKind.i64.wrap (r1.1+1)) x2 x3 (decide ((IntKind.i64.wrap (r1.1 - x1))≥(IntKind.i64.wrap (Int.tdiv x10 8)))) r1.2.1 r2)) else((q0 (IntKind.i64.wrap (r1.1+1)) x2 x3 r1.2.2).bind fun r2=>(k3 x1 r1.1 x3 (decide ((IntKind.i64.wrap (x2 - r1.1))≥(IntKind.i64.wrap (Int.tdiv x10 8)))) r1.2.1 r2))
def xBu(N:Nat)(q0:Int→Int→Int→(List Org)→Option ((List Org)))(k3:Int→Int→Int→Bool→Bool→(List Org)→Option ((List Org)))(x1:Int)(x2:Int)(x3:Int)(x8:Bool)(x9:Bool)(x10:Int)(x11:Int)(b1000004:List Org):Option ((List Org)):=bif(decide (x1>0)) then((xAR N (IntKind.i64.wrap (x1 - 1)) x11 b1000004).bind fun r1=>bif(!r1.1) then((xB0 N x1 x2 x11 r1.2).bind fun r2=>(k3 r2.1 x2 x3 x8 x9 r2.2)) else((xCf N q0 k3 x1 x2 x3 x10 x11 r1.2))) else((xCf N q0 k3 x1 x2 x3 x10 x11 b1000004))
def xCe(N:Nat)(q0:Int→Int→Int→(List Org)→Option ((List Org)))(k3:Int→Int→Int→Bool→Bool→(List Org)→Option ((List Org)))(x1:Int)(x2:Int)(x3:Int)(x8:Bool)(x9:Bool)(x10:Int)(x11:Int)(x12:Int)(b1000004:List Org):Option ((List Org)):=bif x8 then(bif x9 then(bif(x12==1) then((xBB N x1 x2 b1000004).bind fun r1=>bif r1.1 then(some r1.2) else((xBu N q0 k3 x1 x2 x3 x8 x9 x10 x11 r1.2))) else((xBu N q0 k3 x1 x2 x3 x8 x9 x10 x11 b1000004))) else((xBu N q0 k3 x1 x2 x3 x8 x9 x10 x11 b1000004))) else((xBu N q0 k3 x1 x2 x3 x8 x9 x10 x11 b1000004))
def xCd(N:Nat)(q0:Int→Int→Int→(List Org)→Option ((List Org)))(k3:Int→Int→Int→Bool→Bool→(List Org)→Option ((List Org)))(x1:Int)(x2:Int)(x3:Int)(x8:Bool)(x9:Bool)(x10:Int)(b1000004:List Org):Option ((List Org)):=(xCc N x1 x2 b1000004).bind fun r1=>bif(r1.2.1==2) then((xB8 N x1 x2 r1.2.2).bind fun r2=>(xCe N q0 k3 x1 x2 x3 x8 x9 x10 (IntKind.i64.wrap ((IntKind.i64.wrap (x2 - 1)) - (IntKind.i64.wrap (r1.1 - x1)))) 1 r2)) else((xCe N q0 k3 x1 x2 x3 x8 x9 x10 r1.1 r1.2.1 r1.2.2))
def xBA(N:Nat)(q0:Int→Int→Int→(List Org)→Option ((List Org))):Nat→Int→Int→Int→Bool→Bool→(List Org)→Option ((List Org))
 |0,_,_,_,_,_,_=>none
 |n+1,x1,x2,x3,x8,x9,b1000004=>bif(decide ((IntKind.i64.wrap (x2 - x1))≤12)) then((xB4 N x1 x2 b1000004).bind fun r1=>some r1) else(bif(x3==0) then((xCw N x1 x2 b1000004).bind fun r1=>some r1) else(bif(!x8) then((xB3 N x1 x2 b1000004).bind fun r1=>(xCd N q0 (fun z0 z1 z2 z3 z4 z5=>(xBA N q0 n z0 z1 z2 z3 z4 z5)) x1 x2 (IntKind.i64.wrap (x3 - 1)) x8 x9 (IntKind.i64.wrap (x2 - x1)) r1)) else((xCd N q0 (fun z0 z1 z2 z3 z4 z5=>(xBA N q0 n z0 z1 z2 z3 z4 z5)) x1 x2 x3 x8 x9 (IntKind.i64.wrap (x2 - x1)) b1000004))))
def xDl(N:Nat)(q0:Int→Int→Int→(List Org)→Option ((List Org)))(a0:Int)(a1:Int)(a2:Int)(a3:List Org):Option ((List Org)):=(xBA N q0 N a0 a1 a2 true true a3)
def xBv(N:Nat):Nat→Int→Int→Int→(List Org)→Option ((List Org))
 |0,_,_,_,_=>none
 |d+1,a0,a1,a2,a3=>xDl N (xBv N d) a0 a1 a2 a3
def xD2(N:Nat)(a0:Int)(a1:Int)(a2:Int)(a3:List Org):Option ((List Org)):=xBv N N a0 a1 a2 a3
def xF9(a0:List Val)(a1:Int):List Arg:= [.val (.v false [.sl .ro .val []]), .val (.v false [.int .i64 a1])]
def xD4(r:Int):CallO:=⟨.v false [.int .i64 r], [], []⟩
def xHv(N:Nat):Nat→Int→Int→Option (Int)
 |0,_,_=>none
 |n+1,x1,x5=>bif(decide (x5<(0:Int))) then(if(0:Int)≤x5∧x5<(0) then none else none) else(some x1)
def xHj(N:Nat)(a0:List Val)(a1:Int):Option (Int):=(xHv N N a1 0)
def xEo(a0:List Str)(a1:Int):List Arg:= [.val (.v false [.sl .ro .str a0]), .val (.v false [.int .i64 a1])]
def xCA(r:Int):CallO:=⟨.v false [.int .i64 r], [], []⟩
def xHk(N:Nat):Nat→(List Str)→Int→Int→Option (Int)
 |0,_,_,_=>none
 |n+1,x0,x1,x5=>bif(decide (x5<(List.length x0:Int))) then(if(0:Int)≤x5∧x5<(List.length x0) then bif(decide (((IntKind.i64.wrap (x1 - (List.length (List.getD x0 (Int.toNat x5) Ty.str.dflt):Int))):Int)<0)) then(some (-1)) else((xHk N n x0 (IntKind.i64.wrap (x1 - (List.length (List.getD x0 (Int.toNat x5) Ty.str.dflt):Int))) (IntKind.i64.wrap (x5+1)))) else none) else(some x1)
def xIV(N:Nat)(a0:List Str)(a1:Int):Option (Int):=bif(decide (((IntKind.i64.wrap (a1 - (List.length a0:Int))):Int)<0)) then(some (-1)) else((xHk N N a0 (IntKind.i64.wrap (a1 - (List.length a0:Int))) 0))
def xF2(a0:List Int)(a1:Int):List Arg:= [.val (.v false [.sl .ro .int a0]), .val (.v false [.int .i64 a1])]
def xDS(r:Int):CallO:=⟨.v false [.int .i64 r], [], []⟩
def xK6(N:Nat)(a0:List Int)(a1:Int):Option (Int):=bif(decide (((IntKind.i64.wrap (a1 - (List.length a0:Int))):Int)<0)) then(some (-1)) else(some (IntKind.i64.wrap (a1 - (List.length a0:Int))))
def xE5(a0:List Org)(a1:Int):List Arg:= [.val (.v false [.sl .ro .org a0]), .val (.v false [.int .i64 a1])]
def xDP(r:Int):CallO:=⟨.v false [.int .i64 r], [], []⟩
def xIT(N:Nat)(a0:List Org)(a1:Int):Option (Int):=bif(decide (((IntKind.i64.wrap (a1 - (List.length a0:Int))):Int)<0)) then(some (-1)) else(some (IntKind.i64.wrap (a1 - (List.length a0:Int))))
def xGv(a0:Rowd)(a1:Int):List Arg:= [.val (.v true [.sl .ro .int (Rowd.cells a0), .sl .ro .org (Rowd.frm a0)]), .val (.v false [.int .i64 a1])]
def xEU(r:Int):CallO:=⟨.v false [.int .i64 r], [], []⟩
def xKQ(N:Nat)(a0:Rowd)(a1:Int):Option (Int):=(xK6 N (Rowd.cells a0) a1).bind fun r1=>bif(decide (r1<0)) then(some (-1)) else((xIT N (Rowd.frm a0) r1).bind fun r2=>bif(decide (r2<0)) then(some (-1)) else(some r2))
def xGR(a0:List Rowd)(a1:Int):List Arg:= [.val (.v false [.sl .ro .row a0]), .val (.v false [.int .i64 a1])]
def xDT(r:Int):CallO:=⟨.v false [.int .i64 r], [], []⟩
def xIU(N:Nat):Nat→(List Rowd)→Int→Int→Option (Int)
 |0,_,_,_=>none
 |n+1,x0,x1,x5=>bif(decide (x5<(List.length x0:Int))) then(if(0:Int)≤x5∧x5<(List.length x0) then(xKQ N (List.getD x0 (Int.toNat x5) Ty.row.dflt) x1).bind fun r1=>bif(decide (r1<0)) then(some (-1)) else((xIU N n x0 r1 (IntKind.i64.wrap (x5+1)))) else none) else(some x1)
def xK7(N:Nat)(a0:List Rowd)(a1:Int):Option (Int):=bif(decide (((IntKind.i64.wrap (a1 - (List.length a0:Int))):Int)<0)) then(some (-1)) else((xIU N N a0 (IntKind.i64.wrap (a1 - (List.length a0:Int))) 0))
def xCL(a0:Val)(a1:Int):List Arg:= [.val (.v true (Va .ro a0)), .val (.v false [.int .i64 a1])]
def xAe(r:Int):CallO:=⟨.v false [.int .i64 r], [], []⟩
def xIL(N:Nat)(q0:Val→Int→Option (Int))(q1:(List Val)→Int→Option (Int))(a0:Val)(a1:Int):Option (Int):=bif(decide (((IntKind.i64.wrap (a1 - (List.length (Val.text a0):Int))):Int)<0)) then(some (-1)) else((q1 (Val.list a0) (IntKind.i64.wrap (a1 - (List.length (Val.text a0):Int)))).bind fun r1=>bif(decide (r1<0)) then(some (-1)) else((xIV N (Val.columns a0) r1).bind fun r2=>bif(decide (r2<0)) then(some (-1)) else((xK7 N (Val.rows a0) r2).bind fun r3=>bif(decide (r3<0)) then(some (-1)) else(some r3))))
def xFM(a0:List Val)(a1:Int):List Arg:= [.val (.v false [.sl .ro .val a0]), .val (.v false [.int .i64 a1])]
def xCK(r:Int):CallO:=⟨.v false [.int .i64 r], [], []⟩
def xHT(N:Nat)(q0:Val→Int→Option (Int))(q1:(List Val)→Int→Option (Int)):Nat→(List Val)→Int→Int→Option (Int)
 |0,_,_,_=>none
 |n+1,x0,x1,x5=>bif(decide (x5<(List.length x0:Int))) then(if(0:Int)≤x5∧x5<(List.length x0) then(q0 (List.getD x0 (Int.toNat x5) Ty.val.dflt) x1).bind fun r1=>bif(decide (r1<0)) then(some (-1)) else((xHT N q0 q1 n x0 r1 (IntKind.i64.wrap (x5+1)))) else none) else(some x1)
def xIm(N:Nat)(q0:Val→Int→Option (Int))(q1:(List Val)→Int→Option (Int))(a0:List Val)(a1:Int):Option (Int):=bif(decide (((IntKind.i64.wrap (a1 - (List.length a0:Int))):Int)<0)) then(some (-1)) else((xHT N q0 q1 N a0 (IntKind.i64.wrap (a1 - (List.length a0:Int))) 0))
structure laws_szValue_rec where
 c_laws_szValue:Val→Int→Option (Int)
 c_laws_szValueS:(List Val)→Int→Option (Int)
def xCZ(N:Nat):Nat→laws_szValue_rec
 |0=>⟨fun _ _=>none,fun _ _=>none⟩
 |d+1=>⟨xIL N (xCZ N d).c_laws_szValue (xCZ N d).c_laws_szValueS,xIm N (xCZ N d).c_laws_szValue (xCZ N d).c_laws_szValueS⟩
def xI7(N:Nat)(a0:Val)(a1:Int):Option (Int):=(xCZ N N).c_laws_szValue a0 a1
def xHn(a0:List Str):List Arg:= [.val (.v false [.sl .ro .str a0])]
def xE7(r:(List Str)):CallO:=⟨.v false [.sl .own .str r], [], []⟩
def xHo(N:Nat):Nat→(List Str)→(List Str)→Int→Option ((List Str))
 |0,_,_,_=>none
 |n+1,x0,x3,x4=>bif(decide (x4<(List.length x0:Int))) then(if(0:Int)≤x4∧x4<(List.length x0) then if(0:Int)≤x4∧x4<(List.length x3) then(xHo N n x0 (List.set x3 (Int.toNat x4) (List.getD x0 (Int.toNat x4) Ty.str.dflt)) (IntKind.i64.wrap (x4+1))) else none else none) else(some x3)
def xHL(N:Nat)(a0:List Str):Option ((List Str)):=if(0:Int)≤(List.length a0:Int)∧(List.length a0:Int)=(List.length a0:Int)∧(List.length a0:Int)≤Lim then(xHo N N a0 (List.replicate (Int.toNat (List.length a0:Int)) Ty.str.dflt) 0) else none
def xIW(a0:List Int):List Arg:= [.val (.v false [.sl .ro .int a0])]
def xGS(r:(List Int)):CallO:=⟨.v false [.sl .own .int r], [], []⟩
def xIX(N:Nat):Nat→(List Int)→(List Int)→Int→Option ((List Int))
 |0,_,_,_=>none
 |n+1,x0,x3,x4=>bif(decide (x4<(List.length x0:Int))) then(if(0:Int)≤x4∧x4<(List.length x0) then if(0:Int)≤x4∧x4<(List.length x3) then(xIX N n x0 (List.set x3 (Int.toNat x4) (List.getD x0 (Int.toNat x4) Ty.int.dflt)) (IntKind.i64.wrap (x4+1))) else none else none) else(some x3)
def xJM(N:Nat)(a0:List Int):Option ((List Int)):=if(0:Int)≤(List.length a0:Int)∧(List.length a0:Int)=(List.length a0:Int)∧(List.length a0:Int)≤Lim then(xIX N N a0 (List.replicate (Int.toNat (List.length a0:Int)) Ty.int.dflt) 0) else none
def xHU(a0:Org):List Arg:= [.val (.v true [.int .i64 (Org.cell a0), .int .i64 (Org.row a0)])]
def xGG(r:Org):CallO:=⟨.v true [.int .i64 (Org.cell r), .int .i64 (Org.row r)], [], []⟩
def xJq(N:Nat)(a0:Org):Option (Org):=some a0
def xHl(a0:List Org):List Arg:= [.val (.v false [.sl .ro .org a0])]
def xE6(r:(List Org)):CallO:=⟨.v false [.sl .own .org r], [], []⟩
def xHm(N:Nat):Nat→(List Org)→(List Org)→Int→Option ((List Org))
 |0,_,_,_=>none
 |n+1,x0,x3,x4=>bif(decide (x4<(List.length x0:Int))) then(if(0:Int)≤x4∧x4<(List.length x0) then(xJq N (List.getD x0 (Int.toNat x4) Ty.org.dflt)).bind fun r1=>if(0:Int)≤x4∧x4<(List.length x3) then(xHm N n x0 (List.set x3 (Int.toNat x4) r1) (IntKind.i64.wrap (x4+1))) else none else none) else(some x3)
def xHK(N:Nat)(a0:List Org):Option ((List Org)):=if(0:Int)≤(List.length a0:Int)∧(List.length a0:Int)=(List.length a0:Int)∧(List.length a0:Int)≤Lim then(xHm N N a0 (List.replicate (Int.toNat (List.length a0:Int)) Ty.org.dflt) 0) else none
def xJr(a0:Rowd):List Arg:= [.val (.v true [.sl .ro .int (Rowd.cells a0), .sl .ro .org (Rowd.frm a0)])]
def xIn(r:Rowd):CallO:=⟨.v true [.sl .own .int (Rowd.cells r), .sl .own .org (Rowd.frm r)], [], []⟩
def xJv(N:Nat)(a0:Rowd):Option (Rowd):=(xJM N (Rowd.cells a0)).bind fun r1=>(xHK N (Rowd.frm a0)).bind fun r2=>some (Rowd.mk r1 r2)
def xIY(a0:List Rowd):List Arg:= [.val (.v false [.sl .ro .row a0])]
def xGT(r:(List Rowd)):CallO:=⟨.v false [.sl .own .row r], [], []⟩
def xIZ(N:Nat):Nat→(List Rowd)→(List Rowd)→Int→Option ((List Rowd))
 |0,_,_,_=>none
 |n+1,x0,x3,x4=>bif(decide (x4<(List.length x0:Int))) then(if(0:Int)≤x4∧x4<(List.length x0) then(xJv N (List.getD x0 (Int.toNat x4) Ty.row.dflt)).bind fun r1=>if(0:Int)≤x4∧x4<(List.length x3) then(xIZ N n x0 (List.set x3 (Int.toNat x4) r1) (IntKind.i64.wrap (x4+1))) else none else none) else(some x3)
def xJN(N:Nat)(a0:List Rowd):Option ((List Rowd)):=if(0:Int)≤(List.length a0:Int)∧(List.length a0:Int)=(List.length a0:Int)∧(List.length a0:Int)≤Lim then(xIZ N N a0 (List.replicate (Int.toNat (List.length a0:Int)) Ty.row.dflt) 0) else none
def xFn(a0:Val):List Arg:= [.val (.v true (Va .ro a0))]
def xAa(r:Val):CallO:=⟨.v true (Va .own r), [], []⟩
def xGd(N:Nat)(q0:Val→Option (Val))(q1:(List Val)→Option ((List Val)))(a0:Val):Option (Val):=(q1 (Val.list a0)).bind fun r1=>(xHL N (Val.columns a0)).bind fun r2=>(xJN N (Val.rows a0)).bind fun r3=>some (Val.mk (Val.kind a0) (Val.n a0) (Val.step a0) (Val.text a0) r1 r2 r3)
def xGH(a0:List Val):List Arg:= [.val (.v false [.sl .ro .val a0])]
def xEN(r:(List Val)):CallO:=⟨.v false [.sl .own .val r], [], []⟩
def xHV(N:Nat)(q0:Val→Option (Val))(q1:(List Val)→Option ((List Val))):Nat→(List Val)→(List Val)→Int→Option ((List Val))
 |0,_,_,_=>none
 |n+1,x0,x3,x4=>bif(decide (x4<(List.length x0:Int))) then(if(0:Int)≤x4∧x4<(List.length x0) then(q0 (List.getD x0 (Int.toNat x4) Ty.val.dflt)).bind fun r1=>if(0:Int)≤x4∧x4<(List.length x3) then(xHV N q0 q1 n x0 (List.set x3 (Int.toNat x4) (Val.re r1)) (IntKind.i64.wrap (x4+1))) else none else none) else(some x3)
def xFT(N:Nat)(q0:Val→Option (Val))(q1:(List Val)→Option ((List Val)))(a0:List Val):Option ((List Val)):=if(0:Int)≤(List.length a0:Int)∧(List.length a0:Int)=(List.length a0:Int)∧(List.length a0:Int)≤Lim then(xHV N q0 q1 N a0 (List.replicate (Int.toNat (List.length a0:Int)) Ty.val.dflt) 0) else none
structure laws_toValue_rec where
 c_laws_toValue:Val→Option (Val)
 c_laws_toValueS:(List Val)→Option ((List Val))
def xBT(N:Nat):Nat→laws_toValue_rec
 |0=>⟨fun _=>none,fun _=>none⟩
 |d+1=>⟨xGd N (xBT N d).c_laws_toValue (xBT N d).c_laws_toValueS,xFT N (xBT N d).c_laws_toValue (xBT N d).c_laws_toValueS⟩
def xCt(N:Nat)(a0:Val):Option (Val):=(xBT N N).c_laws_toValue a0
def xGm(a0:Int)(a1:Int)(a2:Int):List Arg:= [.val (.v false [.int .i64 a0]), .val (.v false [.int .i64 a1]), .val (.v false [.int .i64 a2])]
def xD9(r:Bool):CallO:=⟨.v false [.bool r], [], []⟩
def xJ3(N:Nat)(a0:Int)(a1:Int)(a2:Int):Option (Bool):=bif(decide (a0≥a1)) then(some (decide (a0≤a2))) else(some false)
def xDD(a0:Int):List Arg:= [.val (.v false [.int .i64 a0])]
def xCa(r:Bool):CallO:=⟨.v false [.bool r], [], []⟩
def xF0(N:Nat)(a0:Int):Option (Bool):=(xJ3 N a0 (-1000000000) 1000000000).bind fun r1=>some r1
def xGA(a0:Str):List Arg:= [.val (.v false [.str a0])]
def xCW(r:Bool):CallO:=⟨.v false [.bool r], [], []⟩
def xDf(N:Nat):Nat→Str→Int→Option (Bool)
 |0,_,_=>none
 |n+1,x0,x3=>bif(decide (x3<(List.length x0:Int))) then(if(0:Int)≤x3∧x3<(List.length x0) then bif(decide ((((List.getD x0 (Int.toNat x3) 0).toNat:Int):Int)<32)) then(some false) else(bif(decide ((((List.getD x0 (Int.toNat x3) 0).toNat:Int):Int)>126)) then(some false) else(bif((((List.getD x0 (Int.toNat x3) 0).toNat:Int):Int)==34) then(some false) else((xDf N n x0 (IntKind.i64.wrap (x3+1)))))) else none) else(some (decide ((List.length x0:Int)≤20)))
def xHW(N:Nat)(a0:Str):Option (Bool):=(xDf N N a0 0)
def xFa(a0:Val):List Arg:= [.val (.v true (Va .ro a0))]
def xDm(r:Bool):CallO:=⟨.v false [.bool r], [], []⟩
def xI2(N:Nat)(a0:Val):Option (Bool):=bif((Val.kind a0)==1) then(some true) else(bif((Val.kind a0)==2) then(some true) else(some ((Val.kind a0)==3)))
def xIu(a0:Int)(a1:Int):List Arg:= [.val (.v false [.int .i64 a0]), .val (.v false [.int .i64 a1])]
def xHq(r:Int):CallO:=⟨.v false [.int .i64 r], [], []⟩
def xKW(N:Nat)(a0:Int)(a1:Int):Option (Int):=bif(decide (a0>a1)) then(some a0) else(some a1)
def xFs(a0:Val):List Arg:= [.val (.v true (Va .ro a0))]
def xDx(r:Int):CallO:=⟨.v false [.int .i64 r], [], []⟩
def xGg(N:Nat)(q0:Val→Option (Int)):Nat→Int→Int→Val→Option (Int)
 |0,_,_,_=>none
 |n+1,x3,x4,b1=>bif(decide (x4<(List.length (Val.list b1):Int))) then(if(0:Int)≤x4∧x4<(List.length (Val.list b1)) then(q0 (List.getD (Val.list b1) (Int.toNat x4) Ty.val.dflt)).bind fun r1=>(xKW N x3 r1).bind fun r2=>(xGg N q0 n r2 (IntKind.i64.wrap (x4+1)) b1) else none) else(some (IntKind.i64.wrap (x3+1)))
def xIO(N:Nat)(q0:Val→Option (Int))(a0:Val):Option (Int):=(xGg N q0 N 0 0 a0)
def xEP(N:Nat):Nat→Val→Option (Int)
 |0,_=>none
 |d+1,a0=>xIO N (xEP N d) a0
def xKi(N:Nat)(a0:Val):Option (Int):=xEP N N a0
def xGh(a0:Str):List Arg:= [.val (.v false [.str a0])]
def xBY(r:Bool):CallO:=⟨.v false [.bool r], [], []⟩
def xDy(N:Nat):Nat→Str→Int→Option (Bool)
 |0,_,_=>none
 |n+1,x0,x3=>bif(decide (x3<(List.length x0:Int))) then(if(0:Int)≤x3∧x3<(List.length x0) then bif(decide ((((List.getD x0 (Int.toNat x3) 0).toNat:Int):Int)≥97)) then(bif(decide ((((List.getD x0 (Int.toNat x3) 0).toNat:Int):Int)≥48)) then(bif(!(decide ((((List.getD x0 (Int.toNat x3) 0).toNat:Int):Int)≤122))) then(bif(x3==0) then(some false) else(bif(!(decide ((((List.getD x0 (Int.toNat x3) 0).toNat:Int):Int)≤57))) then(some false) else((xDy N n x0 (IntKind.i64.wrap (x3+1)))))) else((xDy N n x0 (IntKind.i64.wrap (x3+1))))) else(bif(!(decide ((((List.getD x0 (Int.toNat x3) 0).toNat:Int):Int)≤122))) then(bif(x3==0) then(some false) else(some false)) else((xDy N n x0 (IntKind.i64.wrap (x3+1)))))) else(bif(decide ((((List.getD x0 (Int.toNat x3) 0).toNat:Int):Int)≥48)) then(bif(x3==0) then(some false) else(bif(!(decide ((((List.getD x0 (Int.toNat x3) 0).toNat:Int):Int)≤57))) then(some false) else((xDy N n x0 (IntKind.i64.wrap (x3+1)))))) else(bif(x3==0) then(some false) else(some false))) else none) else(some (decide ((List.length x0:Int)>0)))
def xKl(N:Nat)(a0:Str):Option (Bool):=(xDy N N a0 0)
def xG2:List Arg:= []
def xFY(r:(List Str)):CallO:=⟨.v false [.sl .own .str r], [], []⟩
def xIv(N:Nat):Option ((List Str)):=some [[108,101,116], [105,110], [105,102], [116,104,101,110], [101,108,115,101], [102,111,114], [100,111], [108,101,110], [115,117,109], [116,97,107,101], [115,107,105,112], [114,97,110,103,101], [110,116,104], [119,104,101,114,101], [107,101,101,112], [97,100,100], [103,114,111,117,112], [106,111,105,110], [99,111,108,117,109,110], [114,111,119,115], [99,108,111,99,107], [99,104,97,110,99,101], [102,105,108,101], [116,97,98,108,101]]
def xHp(a0:List Str)(a1:Str):List Arg:= [.val (.v false [.sl .ro .str a0]), .val (.v false [.str a1])]
def xD3(r:Bool):CallO:=⟨.v false [.bool r], [], []⟩
def xGB(N:Nat):Nat→(List Str)→Str→Int→Option (Bool)
 |0,_,_,_=>none
 |n+1,x0,x1,x5=>bif(decide (x5<(List.length x0:Int))) then(if(0:Int)≤x5∧x5<(List.length x0) then bif(((List.getD x0 (Int.toNat x5) Ty.str.dflt):Str)==x1) then(some true) else((xGB N n x0 x1 (IntKind.i64.wrap (x5+1)))) else none) else(some false)
def xKV(N:Nat)(a0:List Str)(a1:Str):Option (Bool):=(xGB N N a0 a1 0)
def xG1(a0:Str):List Arg:= [.val (.v false [.str a0])]
def xFX(r:Bool):CallO:=⟨.v false [.bool r], [], []⟩
def xHa(N:Nat)(a0:Str):Option (Bool):=(xIv N).bind fun r1=>(xKV N r1 a0).bind fun r2=>some r2
def xDJ(a0:Str):List Arg:= [.val (.v false [.str a0])]
def xCV(r:Bool):CallO:=⟨.v false [.bool r], [], []⟩
def xGM(N:Nat)(a0:Str):Option (Bool):=(xKl N a0).bind fun r1=>bif r1 then(bif(decide ((List.length a0:Int)≤8)) then((xHa N a0).bind fun r2=>some (!r2)) else(some false)) else(some false)
def xFr(a0:List Str):List Arg:= [.val (.v false [.sl .ro .str a0])]
def xCq(r:Bool):CallO:=⟨.v false [.bool r], [], []⟩
def xDI(N:Nat):Nat→(List Str)→Int→Option (Bool)
 |0,_,_=>none
 |n+1,x0,x3=>bif(decide (x3<(List.length x0:Int))) then(if(0:Int)≤x3∧x3≤(List.length x0) then if(0:Int)≤x3∧x3<(List.length x0) then(xKV N (List.take (Int.toNat x3) x0) (List.getD x0 (Int.toNat x3) Ty.str.dflt)).bind fun r1=>bif r1 then(some false) else((xDI N n x0 (IntKind.i64.wrap (x3+1)))) else none else none) else(some true)
def xGL(N:Nat)(a0:List Str):Option (Bool):=(xDI N N a0 0)
def xE8(a0:List Str):List Arg:= [.val (.v false [.sl .ro .str a0])]
def xCB(r:Bool):CallO:=⟨.v false [.bool r], [], []⟩
def xE9(N:Nat):Nat→(List Str)→Int→Option (Bool)
 |0,_,_=>none
 |n+1,x0,x3=>bif(decide (x3<(List.length x0:Int))) then(if(0:Int)≤x3∧x3<(List.length x0) then(xGM N (List.getD x0 (Int.toNat x3) Ty.str.dflt)).bind fun r1=>bif(!r1) then(some false) else((xE9 N n x0 (IntKind.i64.wrap (x3+1)))) else none) else((xJ3 N (List.length x0:Int) 1 4).bind fun r1=>bif r1 then((xGL N x0).bind fun r2=>some r2) else(some false))
def xI1(N:Nat)(a0:List Str):Option (Bool):=(xE9 N N a0 0)
def xEa(a0:Org)(a1:Org):List Arg:= [.val (.v true [.int .i64 (Org.cell a0), .int .i64 (Org.row a0)]), .val (.v true [.int .i64 (Org.cell a1), .int .i64 (Org.row a1)])]
def xBG(r:Bool):CallO:=⟨.v false [.bool r], [], []⟩
def xFZ(N:Nat)(a0:Org)(a1:Org):Option (Bool):=bif(decide ((Org.cell a0)<(Org.cell a1))) then(some true) else(bif((Org.cell a0)==(Org.cell a1)) then(some (decide ((Org.row a0)<(Org.row a1)))) else(some false))
def xFw(a0:List Org):List Arg:= [.val (.v false [.sl .ro .org a0])]
def xCr(r:Bool):CallO:=⟨.v false [.bool r], [], []⟩
def xDg(N:Nat):Nat→(List Org)→Int→Option (Bool)
 |0,_,_=>none
 |n+1,x0,x3=>bif(decide (x3<(List.length x0:Int))) then(if(0:Int)≤x3∧x3<(List.length x0) then bif(decide (((Org.cell (List.getD x0 (Int.toNat x3) Ty.org.dflt)):Int)<0)) then(some false) else(bif(decide (((Org.row (List.getD x0 (Int.toNat x3) Ty.org.dflt)):Int)<0)) then(some false) else(bif(decide (x3>0)) then(if(0:Int)≤(IntKind.i64.wrap (x3 - 1))∧(IntKind.i64.wrap (x3 - 1))<(List.length x0) then(xFZ N (List.getD x0 (Int.toNat (IntKind.i64.wrap (x3 - 1))) Ty.org.dflt) (List.getD x0 (Int.toNat x3) Ty.org.dflt)).bind fun r1=>bif(!r1) then(some false) else((xDg N n x0 (IntKind.i64.wrap (x3+1)))) else none) else((xDg N n x0 (IntKind.i64.wrap (x3+1)))))) else none) else(some true)
def xHX(N:Nat)(a0:List Org):Option (Bool):=(xDg N N a0 0)
def xGi(a0:Val):List Arg:= [.val (.v true (Va .ro a0))]
def xCM(r:Bool):CallO:=⟨.v false [.bool r], [], []⟩
def xEQ(N:Nat)(k4:Int→Val→Option (Bool)):Nat→Int→Int→Val→Rowd→Option (Bool)
 |0,_,_,_,_=>none
 |n+1,x3,x5,b1,b4=>bif(decide (x5<(List.length (Rowd.cells b4):Int))) then(if(0:Int)≤x5∧x5<(List.length (Rowd.cells b4)) then(xF0 N (List.getD (Rowd.cells b4) (Int.toNat x5) Ty.int.dflt)).bind fun r1=>bif(!r1) then(some false) else((xEQ N k4 n x3 (IntKind.i64.wrap (x5+1)) b1 b4)) else none) else((k4 (IntKind.i64.wrap (x3+1)) b1))
def xFx(N:Nat):Nat→Int→Val→Option (Bool)
 |0,_,_=>none
 |n+1,x3,b1=>bif(decide (x3<(List.length (Val.rows b1):Int))) then(if(0:Int)≤x3∧x3<(List.length (Val.rows b1)) then bif(((List.length (Rowd.cells (List.getD (Val.rows b1) (Int.toNat x3) Ty.row.dflt)):Int):Int) != (List.length (Val.columns b1):Int)) then(some false) else((xHX N (Rowd.frm (List.getD (Val.rows b1) (Int.toNat x3) Ty.row.dflt))).bind fun r1=>bif(!r1) then(some false) else((xEQ N (fun z0 z1=>(xFx N n z0 z1)) N x3 0 b1 (List.getD (Val.rows b1) (Int.toNat x3) Ty.row.dflt)))) else none) else(some true)
def xJa(N:Nat)(a0:Val):Option (Bool):=(xI1 N (Val.columns a0)).bind fun r1=>bif(!r1) then(some false) else(bif(decide ((List.length (Val.rows a0):Int)>12)) then(some false) else((xFx N N 0 a0)))
def xAC(a0:Val):List Arg:= [.val (.v true (Va .ro a0))]
def xAv(r:Bool):CallO:=⟨.v false [.bool r], [], []⟩
def xEe(N:Nat)(q0:Val→Option (Bool))(q1:Val→Option (Bool))(a0:Val):Option (Bool):=bif((Val.kind a0) != 3) then(bif(decide ((List.length (Val.list a0):Int)>0)) then(some false) else(bif((Val.kind a0) != 5) then(bif(decide (((IntKind.i64.wrap ((List.length (Val.columns a0):Int)+(List.length (Val.rows a0):Int))):Int)>0)) then(some false) else(bif((Val.kind a0) != 2) then(bif(!(((Val.text a0):Str)== [])) then(some false) else(bif((Val.kind a0) != 4) then(bif((Val.step a0) != 0) then(some false) else(bif((Val.kind a0)==1) then((xF0 N (Val.n a0)).bind fun r1=>some r1) else(bif((Val.kind a0)==6) then((xJ3 N (Val.n a0) 1 8).bind fun r1=>some r1) else(some false)))) else((xF0 N (Val.n a0)).bind fun r1=>bif r1 then((xF0 N (Val.step a0)).bind fun r2=>some r2) else(some false)))) else(bif((Val.step a0) != 0) then(some false) else(bif((Val.n a0)==0) then((xHW N (Val.text a0)).bind fun r1=>some r1) else(some false))))) else(bif(!(((Val.text a0):Str)== [])) then(some false) else(bif((Val.step a0) != 0) then(some false) else(bif((Val.n a0)==0) then((xJa N a0).bind fun r1=>some r1) else(some false)))))) else(bif(decide (((IntKind.i64.wrap ((List.length (Val.columns a0):Int)+(List.length (Val.rows a0):Int))):Int)>0)) then(some false) else(bif(!(((Val.text a0):Str)== [])) then(some false) else(bif((Val.step a0) != 0) then(some false) else(bif((Val.n a0)==0) then((q1 a0).bind fun r1=>some r1) else(some false)))))
def xHM(a0:Val):List Arg:= [.val (.v true (Va .ro a0))]
def xDU(r:Bool):CallO:=⟨.v false [.bool r], [], []⟩
def xEZ(N:Nat)(q0:Val→Option (Bool))(q1:Val→Option (Bool)):Nat→Int→Val→Option (Bool)
 |0,_,_=>none
 |n+1,x3,b1=>bif(decide (x3<(List.length (Val.list b1):Int))) then(if(0:Int)≤x3∧x3<(List.length (Val.list b1)) then(xI2 N (List.getD (Val.list b1) (Int.toNat x3) Ty.val.dflt)).bind fun r1=>bif(!r1) then(some false) else((q0 (List.getD (Val.list b1) (Int.toNat x3) Ty.val.dflt)).bind fun r2=>bif(!r2) then(some false) else((xEZ N q0 q1 n (IntKind.i64.wrap (x3+1)) b1))) else none) else(bif(decide ((List.length (Val.list b1):Int)≤8)) then((xKi N b1).bind fun r1=>some (decide (r1≤3))) else(some false))
def xJi(N:Nat)(q0:Val→Option (Bool))(q1:Val→Option (Bool))(a0:Val):Option (Bool):=(xEZ N q0 q1 N 0 a0)
structure spec_IsValidValue_rec where
 c_spec_IsValidValue:Val→Option (Bool)
 c_spec_l3List:Val→Option (Bool)
def xAP(N:Nat):Nat→spec_IsValidValue_rec
 |0=>⟨fun _=>none,fun _=>none⟩
 |d+1=>⟨xEe N (xAP N d).c_spec_IsValidValue (xAP N d).c_spec_l3List,xJi N (xAP N d).c_spec_IsValidValue (xAP N d).c_spec_l3List⟩
def xIP(N:Nat)(a0:Val):Option (Bool):=(xAP N N).c_spec_IsValidValue a0
def xCE(a0:Int):List Arg:= [.val (.v false [.int .i64 a0])]
def xBg(r:Val):CallO:=⟨.v true (Va .own r), [], []⟩
def xB5(N:Nat)(a0:Int):Option (Val):=some (Val.mk 6 a0 0 [] [] [] [])
def xHc(a0:List Val):List Arg:= [.val (.v false [.sl .ro .val a0])]
def xDz(r:Val × Bool):CallO:=⟨.tup [(true,(Va .own r.1)),(false, [.bool r.2])], [], []⟩
def xEz(N:Nat):Nat→(List Val)→Int→Val→Option (Val × Bool)
 |0,_,_,_=>none
 |n+1,x0,x4,b2=>bif(decide (x4<(List.length x0:Int))) then(if(0:Int)≤x4∧x4<(List.length x0) then(xIP N (List.getD x0 (Int.toNat x4) Ty.val.dflt)).bind fun r1=>bif(!r1) then((xB5 N 4).bind fun r2=>some (r2,true)) else(bif(((Val.kind (List.getD x0 (Int.toNat x4) Ty.val.dflt)):Int)==6) then((xB5 N (Val.n (List.getD x0 (Int.toNat x4) Ty.val.dflt))).bind fun r2=>some (r2,true)) else((xEz N n x0 (IntKind.i64.wrap (x4+1)) b2))) else none) else(some ((Val.mk 0 0 0 [] [] [] []),false))
def xKm(N:Nat)(a0:List Val):Option (Val × Bool):=(xEz N N a0 0 (Val.mk 0 0 0 [] [] [] []))
def xHd(a0:List Val)(a1:List Int):List Arg:= [.val (.v false [.sl .ro .val a0]), .val (.v false [.sl .ro .int a1])]
def xCN(r:Val × Bool):CallO:=⟨.tup [(true,(Va .own r.1)),(false, [.bool r.2])], [], []⟩
def xEA(N:Nat):Nat→(List Val)→(List Int)→Int→Val→Option (Val × Bool)
 |0,_,_,_,_=>none
 |n+1,x0,x1,x8,b4=>bif(decide (x8<(List.length x0:Int))) then(if(0:Int)≤x8∧x8<(List.length x0) then if(0:Int)≤x8∧x8<(List.length x1) then bif(((Val.kind (List.getD x0 (Int.toNat x8) Ty.val.dflt)):Int) != (List.getD x1 (Int.toNat x8) Ty.int.dflt)) then((xB5 N 4).bind fun r1=>some (r1,true)) else((xEA N n x0 x1 (IntKind.i64.wrap (x8+1)) b4)) else none else none) else(some ((Val.mk 0 0 0 [] [] [] []),false))
def xJb(N:Nat)(a0:List Val)(a1:List Int):Option (Val × Bool):=(xKm N a0).bind fun r1=>bif r1.2 then(some (r1.1,true)) else((xEA N N a0 a1 0 (Val.mk 0 0 0 [] [] [] [])))
def xIt(a0:List Str)(a1:Str):List Arg:= [.val (.v false [.sl .ro .str a0]), .val (.v false [.str a1])]
def xFu(r:Int):CallO:=⟨.v false [.int .i64 r], [], []⟩
def xFt(N:Nat):Nat→(List Str)→Str→Int→Option (Int)
 |0,_,_,_=>none
 |n+1,x0,x1,x5=>bif(decide (x5<(List.length x0:Int))) then(if(0:Int)≤x5∧x5<(List.length x0) then bif(((List.getD x0 (Int.toNat x5) Ty.str.dflt):Str)==x1) then(some x5) else((xFt N n x0 x1 (IntKind.i64.wrap (x5+1)))) else none) else(some (-1))
def xKj(N:Nat)(a0:List Str)(a1:Str):Option (Int):=(xFt N N a0 a1 0)
def xGz(a0:Val)(a1:Str):List Arg:= [.val (.v true (Va .ro a0)), .val (.v false [.str a1])]
def xBN(r:Int):CallO:=⟨.v false [.int .i64 r], [], []⟩
def xFN(N:Nat)(a0:Val)(a1:Str):Option (Int):=(xKj N (Val.columns a0) a1).bind fun r1=>some r1
def xIw(a0:List Org)(a1:List Org):List Arg:= [.val (.v false [.sl .ro .org a0]), .val (.v false [.sl .ro .org a1])]
def xGk(r:(List Org)):CallO:=⟨.v false [.sl .own .org r], [], []⟩
def xBZ(N:Nat):Nat→(List Org)→(List Org)→(List Org)→Int→Int→Option ((List Org))
 |0,_,_,_,_,_=>none
 |n+1,x0,x1,x5,x6,x7=>bif(decide (x6<(List.length x0:Int))) then(bif(x7==(List.length x1:Int)) then(if(0:Int)≤x6∧x6<(List.length x0) then if List.length x5+List.length [(List.getD x0 (Int.toNat x6) Ty.org.dflt)]≤Lim then(xBZ N n x0 x1 (x5++ [(List.getD x0 (Int.toNat x6) Ty.org.dflt)]) (IntKind.i64.wrap (x6+1)) x7) else none else none) else(if(0:Int)≤x6∧x6<(List.length x0) then if(0:Int)≤x7∧x7<(List.length x1) then(xFZ N (List.getD x0 (Int.toNat x6) Ty.org.dflt) (List.getD x1 (Int.toNat x7) Ty.org.dflt)).bind fun r1=>bif r1 then(if List.length x5+List.length [(List.getD x0 (Int.toNat x6) Ty.org.dflt)]≤Lim then(xBZ N n x0 x1 (x5++ [(List.getD x0 (Int.toNat x6) Ty.org.dflt)]) (IntKind.i64.wrap (x6+1)) x7) else none) else(bif(x6==(List.length x0:Int)) then(if List.length x5+List.length [(List.getD x1 (Int.toNat x7) Ty.org.dflt)]≤Lim then(xBZ N n x0 x1 (x5++ [(List.getD x1 (Int.toNat x7) Ty.org.dflt)]) x6 (IntKind.i64.wrap (x7+1))) else none) else((xFZ N (List.getD x1 (Int.toNat x7) Ty.org.dflt) (List.getD x0 (Int.toNat x6) Ty.org.dflt)).bind fun r2=>bif r2 then(if List.length x5+List.length [(List.getD x1 (Int.toNat x7) Ty.org.dflt)]≤Lim then(xBZ N n x0 x1 (x5++ [(List.getD x1 (Int.toNat x7) Ty.org.dflt)]) x6 (IntKind.i64.wrap (x7+1))) else none) else(if List.length x5+List.length [(List.getD x0 (Int.toNat x6) Ty.org.dflt)]≤Lim then(xBZ N n x0 x1 (x5++ [(List.getD x0 (Int.toNat x6) Ty.org.dflt)]) (IntKind.i64.wrap (x6+1)) (IntKind.i64.wrap (x7+1))) else none))) else none else none)) else(bif(decide (x7<(List.length x1:Int))) then(bif(x7==(List.length x1:Int)) then(if(0:Int)≤x6∧x6<(List.length x0) then if List.length x5+List.length [(List.getD x0 (Int.toNat x6) Ty.org.dflt)]≤Lim then(xBZ N n x0 x1 (x5++ [(List.getD x0 (Int.toNat x6) Ty.org.dflt)]) (IntKind.i64.wrap (x6+1)) x7)
      else none else none) else(bif(x6==(List.length x0:Int)) then(if(0:Int)≤x7∧x7<(List.length x1) then if List.length x5+List.length [(List.getD x1 (Int.toNat x7) Ty.org.dflt)]≤Lim then(xBZ N n x0 x1 (x5++ [(List.getD x1 (Int.toNat x7) Ty.org.dflt)]) x6 (IntKind.i64.wrap (x7+1))) else none else none) else(if(0:Int)≤x7∧x7<(List.length x1) then if(0:Int)≤x6∧x6<(List.length x0) then(xFZ N (List.getD x1 (Int.toNat x7) Ty.org.dflt) (List.getD x0 (Int.toNat x6) Ty.org.dflt)).bind fun r1=>bif r1 then(if List.length x5+List.length [(List.getD x1 (Int.toNat x7) Ty.org.dflt)]≤Lim then(xBZ N n x0 x1 (x5++ [(List.getD x1 (Int.toNat x7) Ty.org.dflt)]) x6 (IntKind.i64.wrap (x7+1))) else none) else(if List.length x5+List.length [(List.getD x0 (Int.toNat x6) Ty.org.dflt)]≤Lim then(xBZ N n x0 x1 (x5++ [(List.getD x0 (Int.toNat x6) Ty.org.dflt)]) (IntKind.i64.wrap (x6+1)) (IntKind.i64.wrap (x7+1))) else none) else none else none))) else(some x5))
def xJc(N:Nat)(a0:List Org)(a1:List Org):Option ((List Org)):=(xBZ N N a0 a1 [] 0 0)
def xI3(a0:Rowd)(a1:Rowd)(a2:Int):List Arg:= [.val (.v true [.sl .ro .int (Rowd.cells a0), .sl .ro .org (Rowd.frm a0)]), .val (.v true [.sl .ro .int (Rowd.cells a1), .sl .ro .org (Rowd.frm a1)]), .val (.v false [.int .i64 a2])]
def xHN(r:Rowd):CallO:=⟨.v true [.sl .own .int (Rowd.cells r), .sl .own .org (Rowd.frm r)], [], []⟩
def xJ6(N:Nat)(a0:Rowd)(a1:Rowd)(a2:Int):Option (Rowd):=if 0+List.length (Rowd.cells a0)≤Lim then(xJc N (Rowd.frm a0) (Rowd.frm a1)).bind fun r1=>if(0:Int)≤a2∧a2≤(List.length (Rowd.cells a1)) then if List.length ([]++(Rowd.cells a0))+List.length (List.take (Int.toNat a2) (Rowd.cells a1))≤Lim then if(0:Int)≤(IntKind.i64.wrap (a2+1))∧(IntKind.i64.wrap (a2+1))≤(List.length (Rowd.cells a1)) then if List.length (([]++(Rowd.cells a0))++(List.take (Int.toNat a2) (Rowd.cells a1)))+List.length (List.drop (Int.toNat (IntKind.i64.wrap (a2+1))) (Rowd.cells a1))≤Lim then some (Rowd.mk ((([]++(Rowd.cells a0))++(List.take (Int.toNat a2) (Rowd.cells a1)))++(List.drop (Int.toNat (IntKind.i64.wrap (a2+1))) (Rowd.cells a1))) r1) else none else none else none else none else none
def xEu(a0:Val)(a1:Val)(a2:Val):List Arg:= [.val (.v true (Va .ro a0)), .val (.v true (Va .ro a1)), .val (.v true (Va .ro a2))]
def xAG(r:Val):CallO:=⟨.v true (Va .own r), [], []⟩
def xFv(N:Nat)(k15:Int→Int→Int→Val→Val→Val→Val→Option (Val)):Nat→Int→Int→Int→Int→Val→Val→Val→Val→Option (Val)
 |0,_,_,_,_,_,_,_,_=>none
 |n+1,x9,x10,x12,x13,b4,b5,b6,b11=>bif(decide (x13<(List.length (Val.rows b5):Int))) then(if(0:Int)≤x12∧x12<(List.length (Val.rows b4)) then if(0:Int)≤x9∧x9<(List.length (Rowd.cells (List.getD (Val.rows b4) (Int.toNat x12) Ty.row.dflt))) then if(0:Int)≤x13∧x13<(List.length (Val.rows b5)) then if(0:Int)≤x10∧x10<(List.length (Rowd.cells (List.getD (Val.rows b5) (Int.toNat x13) Ty.row.dflt))) then bif(((List.getD (Rowd.cells (List.getD (Val.rows b4) (Int.toNat x12) Ty.row.dflt)) (Int.toNat x9) Ty.int.dflt):Int)==(List.getD (Rowd.cells (List.getD (Val.rows b5) (Int.toNat x13) Ty.row.dflt)) (Int.toNat x10) Ty.int.dflt)) then((xJ6 N (List.getD (Val.rows b4) (Int.toNat x12) Ty.row.dflt) (List.getD (Val.rows b5) (Int.toNat x13) Ty.row.dflt) x10).bind fun r1=>if List.length (Val.rows b11)+List.length [r1]≤Lim then(xFv N k15 n x9 x10 x12 (IntKind.i64.wrap (x13+1)) b4 b5 b6 (Val.mk (Val.kind b11) (Val.n b11) (Val.step b11) (Val.text b11) (Val.list b11) (Val.columns b11) ((Val.rows b11)++ [r1]))) else none) else((xFv N k15 n x9 x10 x12 (IntKind.i64.wrap (x13+1)) b4 b5 b6 b11)) else none else none else none else none) else((k15 x9 x10 (IntKind.i64.wrap (x12+1)) b4 b5 b6 b11))
def xEy(N:Nat):Nat→Int→Int→Int→Val→Val→Val→Val→Option (Val)
 |0,_,_,_,_,_,_,_=>none
 |n+1,x9,x10,x12,b4,b5,b6,b11=>bif(decide (x12<(List.length (Val.rows b4):Int))) then((xFv N (fun z0 z1 z2 z3 z4 z5 z6=>(xEy N n z0 z1 z2 z3 z4 z5 z6)) N x9 x10 x12 0 b4 b5 b6 b11)) else(bif(decide ((List.length (Val.rows b11):Int)>12)) then((xB5 N 6).bind fun r1=>some r1) else(some b11))
def xHb(N:Nat)(a0:Val)(a1:Val)(a2:Val):Option (Val):=(xJb N [(Val.re a0),(Val.re a1),(Val.re a2)] [2,5,5]).bind fun r1=>bif r1.2 then(some r1.1) else((xFN N a1 (Val.text a0)).bind fun r2=>(xFN N a2 (Val.text a0)).bind fun r3=>bif(decide (r2<0)) then((xB5 N 7).bind fun r4=>some r4) else(bif(decide (r3<0)) then((xB5 N 7).bind fun r4=>some r4) else(if 0+List.length (Val.columns a1)≤Lim then if(0:Int)≤r3∧r3≤(List.length (Val.columns a2)) then if List.length ([]++(Val.columns a1))+List.length (List.take (Int.toNat r3) (Val.columns a2))≤Lim then if(0:Int)≤(IntKind.i64.wrap (r3+1))∧(IntKind.i64.wrap (r3+1))≤(List.length (Val.columns a2)) then if List.length (([]++(Val.columns a1))++(List.take (Int.toNat r3) (Val.columns a2)))+List.length (List.drop (Int.toNat (IntKind.i64.wrap (r3+1))) (Val.columns a2))≤Lim then(xGL N ((([]++(Val.columns a1))++(List.take (Int.toNat r3) (Val.columns a2)))++(List.drop (Int.toNat (IntKind.i64.wrap (r3+1))) (Val.columns a2)))).bind fun r4=>bif(!r4) then((xB5 N 7).bind fun r5=>some r5) else(bif(decide (((List.length ((([]++(Val.columns a1))++(List.take (Int.toNat r3) (Val.columns a2)))++(List.drop (Int.toNat (IntKind.i64.wrap (r3+1))) (Val.columns a2))):Int):Int)>4)) then((xB5 N 6).bind fun r5=>some r5) else((xEy N N r2 r3 0 a1 a2 (Val.mk 0 0 0 [] [] [] []) (Val.mk 5 0 0 [] [] ((([]++(Val.columns a1))++(List.take (Int.toNat r3) (Val.columns a2)))++(List.drop (Int.toNat (IntKind.i64.wrap (r3+1))) (Val.columns a2))) [])))) else none else none else none else none else none)))
def xEt(a0:Int)(a1:Int)(a2:Int):List Arg:= [.val (.v false [.int .i64 a0]), .val (.v false [.int .i64 a1]), .val (.v false [.int .i64 a2])]
def xCP(r:Bool):CallO:=⟨.v false [.bool r], [], []⟩
def xG8(N:Nat)(a0:Int)(a1:Int)(a2:Int):Option (Bool):=bif(decide (a1≤a0)) then(some (decide (a0≤a2))) else(some false)
def xDA(a0:Int):List Arg:= [.val (.v false [.int .i64 a0])]
def xB9(r:Bool):CallO:=⟨.v false [.bool r], [], []⟩
def xFQ(N:Nat)(a0:Int):Option (Bool):=(xG8 N a0 (-1000000000) 1000000000).bind fun r1=>some r1
def xGr(a0:Str):List Arg:= [.val (.v false [.str a0])]
def xCT(r:Bool):CallO:=⟨.v false [.bool r], [], []⟩
def xFf(N:Nat):Nat→Str→Int→Option (Bool)
 |0,_,_=>none
 |n+1,x0,x3=>bif(decide (x3<(List.length x0:Int))) then(if(0:Int)≤x3∧x3<(List.length x0) then bif(decide ((((List.getD x0 (Int.toNat x3) 0).toNat:Int):Int)<32)) then(some false) else(bif(decide ((((List.getD x0 (Int.toNat x3) 0).toNat:Int):Int)>126)) then(some false) else(bif((((List.getD x0 (Int.toNat x3) 0).toNat:Int):Int)==34) then(some false) else((xFf N n x0 (IntKind.i64.wrap (x3+1)))))) else none) else(some (decide ((List.length x0:Int)≤20)))
def xHO(N:Nat)(a0:Str):Option (Bool):=(xFf N N a0 0)
def xHE(a0:Str):List Arg:= [.val (.v false [.str a0])]
def xCO(r:Bool):CallO:=⟨.v false [.bool r], [], []⟩
def xEs(N:Nat):Nat→Str→Int→Option (Bool)
 |0,_,_=>none
 |n+1,x0,x3=>bif(decide (x3<(List.length x0:Int))) then(if(0:Int)≤x3∧x3<(List.length x0) then bif(decide ((((List.getD x0 (Int.toNat x3) 0).toNat:Int):Int)≥97)) then(bif(!(decide ((((List.getD x0 (Int.toNat x3) 0).toNat:Int):Int)≤122))) then(bif(x3==0) then(some false) else(bif(decide ((((List.getD x0 (Int.toNat x3) 0).toNat:Int):Int)<48)) then(some false) else(bif(decide ((((List.getD x0 (Int.toNat x3) 0).toNat:Int):Int)>57)) then(some false) else((xEs N n x0 (IntKind.i64.wrap (x3+1))))))) else((xEs N n x0 (IntKind.i64.wrap (x3+1))))) else(bif(x3==0) then(some false) else(bif(decide ((((List.getD x0 (Int.toNat x3) 0).toNat:Int):Int)<48)) then(some false) else(bif(decide ((((List.getD x0 (Int.toNat x3) 0).toNat:Int):Int)>57)) then(some false) else((xEs N n x0 (IntKind.i64.wrap (x3+1))))))) else none) else((xG8 N (List.length x0:Int) 1 8).bind fun r1=>some r1)
def xK1(N:Nat)(a0:Str):Option (Bool):=(xEs N N a0 0)
def xAN(a0:Str):List Arg:= [.val (.v false [.str a0])]
def xAI(r:Int):CallO:=⟨.v false [.int .i64 r], [], []⟩
def xGX(N:Nat)(a0:Str):Option (Int):=bif((a0:Str)== [99,108,111,99,107]) then(some 0) else(bif((a0:Str)== [108,101,110]) then(some 1) else(bif((a0:Str)== [115,117,109]) then(some 1) else(bif((a0:Str)== [114,111,119,115]) then(some 1) else(bif((a0:Str)== [99,104,97,110,99,101]) then(some 1) else(bif((a0:Str)== [102,105,108,101]) then(some 1) else(bif((a0:Str)== [116,97,107,101]) then(some 2) else(bif((a0:Str)== [115,107,105,112]) then(some 2) else(bif((a0:Str)== [114,97,110,103,101]) then(some 2) else(bif((a0:Str)== [110,116,104]) then(some 2) else(bif((a0:Str)== [107,101,101,112]) then(some 2) else(bif((a0:Str)== [99,111,108,117,109,110]) then(some 2) else(bif((a0:Str)== [116,97,98,108,101]) then(some 2) else(bif((a0:Str)== [119,104,101,114,101]) then(some 3) else(bif((a0:Str)== [103,114,111,117,112]) then(some 3) else(bif((a0:Str)== [106,111,105,110]) then(some 3) else(bif((a0:Str)== [97,100,100]) then(some 4) else(some (-1))))))))))))))))))
def xCD(a0:Str):List Arg:= [.val (.v false [.str a0])]
def xCk(r:Bool):CallO:=⟨.v false [.bool r], [], []⟩
def xG7(N:Nat)(a0:Str):Option (Bool):=bif((a0:Str)== [108,101,116]) then(some true) else(bif((a0:Str)== [105,110]) then(some true) else(bif((a0:Str)== [105,102]) then(some true) else(bif((a0:Str)== [116,104,101,110]) then(some true) else(bif((a0:Str)== [101,108,115,101]) then(some true) else(bif((a0:Str)== [102,111,114]) then(some true) else(bif((a0:Str)== [100,111]) then(some true) else((xGX N a0).bind fun r1=>some (decide (r1≥0)))))))))
def xEg(a0:Str):List Arg:= [.val (.v false [.str a0])]
def xC9(r:Bool):CallO:=⟨.v false [.bool r], [], []⟩
def xGC(N:Nat)(a0:Str):Option (Bool):=(xK1 N a0).bind fun r1=>bif r1 then((xG7 N a0).bind fun r2=>some (!r2)) else(some false)
def xG5(a0:List Str)(a1:Str):List Arg:= [.val (.v false [.sl .ro .str a0]), .val (.v false [.str a1])]
def xCX(r:Int):CallO:=⟨.v false [.int .i64 r], [], []⟩
def xFe(N:Nat):Nat→Str→(List Str)→Int→Int→Option (Int)
 |0,_,_,_,_=>none
 |n+1,x1,x7,x8,x9=>bif(decide (x9<x8)) then(if(0:Int)≤x9∧x9<(List.length x7) then bif(((List.getD x7 (Int.toNat x9) Ty.str.dflt):Str)==x1) then(some x9) else((xFe N n x1 x7 x8 (IntKind.i64.wrap (x9+1)))) else none) else(some (-1))
def xH0(N:Nat)(a0:List Str)(a1:Str):Option (Int):=(xFe N N a1 a0 (List.length a0:Int) 0)
def xFc(a0:List Str):List Arg:= [.val (.v false [.sl .ro .str a0])]
def xBJ(r:Bool):CallO:=⟨.v false [.bool r], [], []⟩
def xDE(N:Nat):Nat→(List Str)→(List Str)→Int→Int→Option (Bool)
 |0,_,_,_,_=>none
 |n+1,x0,x5,x6,x7=>bif(decide (x7<x6)) then(if(0:Int)≤x7∧x7<(List.length x5) then(xH0 N x0 (List.getD x5 (Int.toNat x7) Ty.str.dflt)).bind fun r1=>bif(r1 != x7) then(some false) else((xDE N n x0 x5 x6 (IntKind.i64.wrap (x7+1)))) else none) else(some true)
def xFB(N:Nat)(a0:List Str):Option (Bool):=(xDE N N a0 a0 (List.length a0:Int) 0)
def xEB(a0:List Str):List Arg:= [.val (.v false [.sl .ro .str a0])]
def xCl(r:Bool):CallO:=⟨.v false [.bool r], [], []⟩
def xEC(N:Nat):Nat→(List Str)→(List Str)→Int→Int→Option (Bool)
 |0,_,_,_,_=>none
 |n+1,x0,x5,x6,x7=>bif(decide (x7<x6)) then(if(0:Int)≤x7∧x7<(List.length x5) then(xGC N (List.getD x5 (Int.toNat x7) Ty.str.dflt)).bind fun r1=>bif(!r1) then(some false) else((xEC N n x0 x5 x6 (IntKind.i64.wrap (x7+1)))) else none) else((xG8 N (List.length x0:Int) 1 4).bind fun r1=>bif r1 then((xFB N x0).bind fun r2=>some r2) else(some false))
def xId(N:Nat)(a0:List Str):Option (Bool):=(xEC N N a0 a0 (List.length a0:Int) 0)
def xFh(a0:Val):List Arg:= [.val (.v true (Va .ro a0))]
def xBL(r:Bool):CallO:=⟨.v false [.bool r], [], []⟩
def xD6(N:Nat)(k4:(List Rowd)→Int→Int→Val→Option (Bool)):Nat→(List Rowd)→Int→Int→(List Org)→Int→Int→Val→Rowd→Option (Bool)
 |0,_,_,_,_,_,_,_,_=>none
 |n+1,x20,x21,x22,x45,x46,x47,b1,b4=>bif(decide (x47<x46)) then(if(0:Int)≤x47∧x47<(List.length x45) then bif(decide (((Org.cell (List.getD x45 (Int.toNat x47) Ty.org.dflt)):Int)<0)) then(some false) else(bif(decide (((Org.row (List.getD x45 (Int.toNat x47) Ty.org.dflt)):Int)<0)) then(some false) else(bif(decide (x47>0)) then(if(0:Int)≤(IntKind.i64.wrap (x47 - 1))∧(IntKind.i64.wrap (x47 - 1))<(List.length (Rowd.frm b4)) then(xEh N (List.getD (Rowd.frm b4) (Int.toNat (IntKind.i64.wrap (x47 - 1))) Ty.org.dflt) (List.getD x45 (Int.toNat x47) Ty.org.dflt)).bind fun r1=>bif(!r1) then(some false) else((xD6 N k4 n x20 x21 x22 x45 x46 (IntKind.i64.wrap (x47+1)) b1 b4)) else none) else((xD6 N k4 n x20 x21 x22 x45 x46 (IntKind.i64.wrap (x47+1)) b1 b4)))) else none) else((k4 x20 x21 (IntKind.i64.wrap (x22+1)) b1))
def xFj(N:Nat)(k4:(List Rowd)→Int→Int→Val→Option (Bool)):Nat→(List Rowd)→Int→Int→(List Int)→Int→Int→Val→Rowd→Option (Bool)
 |0,_,_,_,_,_,_,_,_=>none
 |n+1,x20,x21,x22,x34,x35,x36,b1,b4=>bif(decide (x36<x35)) then(if(0:Int)≤x36∧x36<(List.length x34) then(xFQ N (List.getD x34 (Int.toNat x36) Ty.int.dflt)).bind fun r1=>bif(!r1) then(some false) else((xFj N k4 n x20 x21 x22 x34 x35 (IntKind.i64.wrap (x36+1)) b1 b4)) else none) else((xD6 N k4 N x20 x21 x22 (Rowd.frm b4) (List.length (Rowd.frm b4):Int) 0 b1 b4))
def xFi(N:Nat):Nat→(List Rowd)→Int→Int→Val→Option (Bool)
 |0,_,_,_,_=>none
 |n+1,x20,x21,x22,b1=>bif(decide (x22<x21)) then(if(0:Int)≤x22∧x22<(List.length x20) then bif(((List.length (Rowd.cells (List.getD x20 (Int.toNat x22) Ty.row.dflt)):Int):Int) != (List.length (Val.columns b1):Int)) then(some false) else((xFj N (fun z0 z1 z2 z3=>(xFi N n z0 z1 z2 z3)) N x20 x21 x22 (Rowd.cells (List.getD x20 (Int.toNat x22) Ty.row.dflt)) (List.length (Rowd.cells (List.getD x20 (Int.toNat x22) Ty.row.dflt)):Int) 0 b1 (List.getD x20 (Int.toNat x22) Ty.row.dflt))) else none) else(some true)
def xH3(N:Nat)(a0:Val):Option (Bool):=(xId N (Val.columns a0)).bind fun r1=>bif(!r1) then(some false) else(bif(decide ((List.length (Val.rows a0):Int)>12)) then(some false) else((xFi N N (Val.rows a0) (List.length (Val.rows a0):Int) 0 a0)))
def xFd(a0:Val):List Arg:= [.val (.v true (Va .ro a0))]
def xDu(r:Int):CallO:=⟨.v false [.int .i64 r], [], []⟩
def xGa(N:Nat)(q0:Val→Option (Int)):Nat→Int→(List Val)→Int→Int→Option (Int)
 |0,_,_,_,_=>none
 |n+1,x3,x7,x8,x9=>bif(decide (x9<x8)) then(if(0:Int)≤x9∧x9<(List.length x7) then(q0 (List.getD x7 (Int.toNat x9) Ty.val.dflt)).bind fun r1=>(xGa N q0 n (if r1>x3 then r1 else x3) x7 x8 (IntKind.i64.wrap (x9+1))) else none) else(some (IntKind.i64.wrap (x3+1)))
def xIH(N:Nat)(q0:Val→Option (Int))(a0:Val):Option (Int):=(xGa N q0 N 0 (Val.list a0) (List.length (Val.list a0):Int) 0)
def xEJ(N:Nat):Nat→Val→Option (Int)
 |0,_=>none
 |d+1,a0=>xIH N (xEJ N d) a0
def xI4(N:Nat)(a0:Val):Option (Int):=xEJ N N a0
def xAn(a0:Val):List Arg:= [.val (.v true (Va .ro a0))]
def xAk(r:Bool):CallO:=⟨.v false [.bool r], [], []⟩
def xBR(N:Nat)(q0:Val→Option (Bool)):Nat→(List Val)→Int→Int→Val→Option (Bool)
 |0,_,_,_,_=>none
 |n+1,x124,x125,x126,b1=>bif(decide (x126<x125)) then(if(0:Int)≤x126∧x126<(List.length x124) then bif(((Val.kind (List.getD x124 (Int.toNat x126) Ty.val.dflt)):Int) != 1) then(bif(((Val.kind (List.getD x124 (Int.toNat x126) Ty.val.dflt)):Int) != 2) then(bif(((Val.kind (List.getD x124 (Int.toNat x126) Ty.val.dflt)):Int) != 3) then(some false) else((q0 (List.getD x124 (Int.toNat x126) Ty.val.dflt)).bind fun r1=>bif(!r1) then(some false) else((xBR N q0 n x124 x125 (IntKind.i64.wrap (x126+1)) b1)))) else((q0 (List.getD x124 (Int.toNat x126) Ty.val.dflt)).bind fun r1=>bif(!r1) then(some false) else((xBR N q0 n x124 x125 (IntKind.i64.wrap (x126+1)) b1)))) else((q0 (List.getD x124 (Int.toNat x126) Ty.val.dflt)).bind fun r1=>bif(!r1) then(some false) else((xBR N q0 n x124 x125 (IntKind.i64.wrap (x126+1)) b1))) else none) else(bif((Val.n b1)==0) then(bif((Val.step b1)==0) then(bif(((Val.text b1):Str)== []) then(bif((List.length (Val.columns b1):Int)==0) then(bif((List.length (Val.rows b1):Int)==0) then(bif(decide ((List.length (Val.list b1):Int)≤8)) then((xI4 N b1).bind fun r1=>some (decide (r1≤3))) else(some false)) else(some false)) else(some false)) else(some false)) else(some false)) else(some false))
def xEc(N:Nat)(q0:Val→Option (Bool))(a0:Val):Option (Bool):=bif((List.length (Val.list a0):Int)==0) then(bif((List.length (Val.columns a0):Int)==0) then(bif((Val.kind a0)==1) then(bif((List.length (Val.rows a0):Int)==0) then(bif((Val.step a0)==0) then(bif(((Val.text a0):Str)== []) then((xFQ N (Val.n a0)).bind fun r1=>some r1) else(some false)) else(some false)) else(some false)) else(bif((Val.kind a0)==2) then(bif((List.length (Val.rows a0):Int)==0) then(bif((Val.n a0)==0) then(bif((Val.step a0)==0) then((xHO N (Val.text a0)).bind fun r1=>some r1) else(some false)) else(some false)) else(some false)) else(bif((Val.kind a0)==4) then(bif((List.length (Val.rows a0):Int)==0) then(bif(((Val.text a0):Str)== []) then((xFQ N (Val.n a0)).bind fun r1=>bif r1 then((xFQ N (Val.step a0)).bind fun r2=>some r2) else(some false)) else(some false)) else(some false)) else(bif((Val.kind a0)==6) then(bif((List.length (Val.rows a0):Int)==0) then(bif((Val.step a0)==0) then(bif(((Val.text a0):Str)== []) then((xG8 N (Val.n a0) 1 8).bind fun r1=>some r1) else(some false)) else(some false)) else(some false)) else(bif((Val.kind a0)==5) then(bif((Val.n a0)==0) then(bif((Val.step a0)==0) then(bif(((Val.text a0):Str)== []) then((xH3 N a0).bind fun r1=>some r1) else(some false)) else(some false)) else(some false)) else(bif((Val.kind a0)==3) then((xBR N q0 N (Val.list a0) (List.length (Val.list a0):Int) 0 a0)) else(some false))))))) else(bif((Val.kind a0)==1) then(some false) else(bif((Val.kind a0)==2) then(some false) else(bif((Val.kind a0)==4) then(some false) else(bif((Val.kind a0)==6) then(
     some false) else(bif((Val.kind a0)==5) then(bif((Val.n a0)==0) then(bif((Val.step a0)==0) then(bif(((Val.text a0):Str)== []) then((xH3 N a0).bind fun r1=>some r1) else(some false)) else(some false)) else(some false)) else(bif((Val.kind a0)==3) then((xBR N q0 N (Val.list a0) (List.length (Val.list a0):Int) 0 a0)) else(some false)))))))) else(bif((Val.kind a0)==1) then(some false) else(bif((Val.kind a0)==2) then(some false) else(bif((Val.kind a0)==4) then(some false) else(bif((Val.kind a0)==6) then(some false) else(bif((Val.kind a0)==5) then(bif((Val.n a0)==0) then(bif((Val.step a0)==0) then(bif(((Val.text a0):Str)== []) then(some false) else(some false)) else(some false)) else(some false)) else(bif((Val.kind a0)==3) then((xBR N q0 N (Val.list a0) (List.length (Val.list a0):Int) 0 a0)) else(some false)))))))
def xBS(N:Nat):Nat→Val→Option (Bool)
 |0,_=>none
 |d+1,a0=>xEc N (xBS N d) a0
def xII(N:Nat)(a0:Val):Option (Bool):=xBS N N a0
def xC6(a0:Int):List Arg:= [.val (.v false [.int .i64 a0])]
def xA8(r:Val):CallO:=⟨.v true (Va .own r), [], []⟩
def xBK(N:Nat)(a0:Int):Option (Val):=some (Val.mk 6 a0 0 [] [] [] [])
def xDp(a0:List Val):List Arg:= [.val (.v false [.sl .ro .val a0])]
def xDM(r:Val × Bool × Bool):CallO:=⟨.tup [(true, [.int .i64 (Val.kind r.1), .int .i64 (Val.n r.1), .int .i64 (Val.step r.1), .str (Val.text r.1), .sl .ro .val (Val.list r.1), .sl .ro .str (Val.columns r.1), .sl .ro .row (Val.rows r.1)]),(false, [.bool r.2.1])], [], []⟩
def xDL(r:Val × Bool × Bool):CallO:=⟨.tup [(true, [.int .i64 (Val.kind r.1), .int .i64 (Val.n r.1), .int .i64 (Val.step r.1), .str (Val.text r.1), .sl .own .val (Val.list r.1), .sl .own .str (Val.columns r.1), .sl .own .row (Val.rows r.1)]),(false, [.bool r.2.1])], [], []⟩
def xCv(r:Val × Bool × Bool):CallO:=bif r.2.2 then xDM r else xDL r
def xC3(N:Nat):Nat→(List Val)→Int→Int→Val→Option (Val × Bool × Bool)
 |0,_,_,_,_=>none
 |n+1,x6,x7,x8,b2=>bif(decide (x8<x7)) then(if(0:Int)≤x8∧x8<(List.length x6) then(xII N (List.getD x6 (Int.toNat x8) Ty.val.dflt)).bind fun r1=>bif(!r1) then((xBK N 4).bind fun r2=>some (r2,true,false)) else(bif(((Val.kind (List.getD x6 (Int.toNat x8) Ty.val.dflt)):Int)==6) then(some ((List.getD x6 (Int.toNat x8) Ty.val.dflt),true,true)) else((xC3 N n x6 x7 (IntKind.i64.wrap (x8+1)) b2))) else none) else(some ((Val.mk 0 0 0 [] [] [] []),false,false))
def xHh(N:Nat)(a0:List Val):Option (Val × Bool × Bool):=(xC3 N N a0 (List.length a0:Int) 0 (Val.mk 0 0 0 [] [] [] []))
def xDK(a0:List Int)(a1:List Val):List Arg:= [.val (.v false [.sl .ro .int a0]), .val (.v false [.sl .ro .val a1])]
def xIf(r:Val × Bool × Bool):CallO:=⟨.tup [(true, [.int .i64 (Val.kind r.1), .int .i64 (Val.n r.1), .int .i64 (Val.step r.1), .str (Val.text r.1), .sl .ro .val (Val.list r.1), .sl .ro .str (Val.columns r.1), .sl .ro .row (Val.rows r.1)]),(false, [.bool r.2.1])], [], []⟩
def xC7(r:Val × Bool × Bool):CallO:=⟨.tup [(true, [.int .i64 (Val.kind r.1), .int .i64 (Val.n r.1), .int .i64 (Val.step r.1), .str (Val.text r.1), .sl .own .val (Val.list r.1), .sl .own .str (Val.columns r.1), .sl .own .row (Val.rows r.1)]),(false, [.bool r.2.1])], [], []⟩
def xDq(r:Val × Bool × Bool):CallO:=⟨.tup [(true, [.int .i64 (Val.kind r.1), .int .i64 (Val.n r.1), .int .i64 (Val.step r.1), .str (Val.text r.1), .sl .ro .val [], .sl .ro .str [], .sl .ro .row []]),(false, [.bool r.2.1])], [], []⟩
def xCz(r:Val × Bool × Bool):CallO:=bif r.2.2 then xIf r else xC7 r
def xDj(N:Nat):Nat→(List Int)→(List Val)→Int→Int→Val→Option (Val × Bool × Bool)
 |0,_,_,_,_,_=>none
 |n+1,x0,x17,x18,x19,b4=>bif(decide (x19<x18)) then(if(0:Int)≤x19∧x19<(List.length x17) then if(0:Int)≤x19∧x19<(List.length x0) then bif(((Val.kind (List.getD x17 (Int.toNat x19) Ty.val.dflt)):Int) != (List.getD x0 (Int.toNat x19) Ty.int.dflt)) then((xBK N 4).bind fun r1=>some (r1,true,false)) else((xDj N n x0 x17 x18 (IntKind.i64.wrap (x19+1)) b4)) else none else none) else(some ((Val.mk 0 0 0 [] [] [] []),false,false))
def xHF(N:Nat)(a0:List Int)(a1:List Val):Option (Val × Bool × Bool):=(xHh N a1).bind fun r1=>bif r1.2.2 then(bif r1.2.1 then(some (r1.1,true,true)) else((xDj N N a0 a1 (List.length a1:Int) 0 (Val.mk 0 0 0 [] [] [] [])))) else(bif r1.2.1 then(some (r1.1,true,false)) else((xDj N N a0 a1 (List.length a1:Int) 0 (Val.mk 0 0 0 [] [] [] []))))
def xGq(a0:Val)(a1:Str):List Arg:= [.val (.v true (Va .ro a0)), .val (.v false [.str a1])]
def xAK(r:Int):CallO:=⟨.v false [.int .i64 r], [], []⟩
def xD5(N:Nat)(a0:Val)(a1:Str):Option (Int):=(xH0 N (Val.columns a0) a1).bind fun r1=>some r1
def xIc(a0:List Str)(a1:List Str):List Arg:= [.val (.v false [.sl .ro .str a0]), .val (.v false [.sl .ro .str a1])]
def xCo(r:(List Str)):CallO:=⟨.v false [.sl .own .str r], [], []⟩
def xEv(N:Nat):Nat→(List Str)→(List Str)→(List Str)→Int→Int→Option ((List Str))
 |0,_,_,_,_,_=>none
 |n+1,x1,x5,x9,x10,x11=>bif(decide (x11<x10)) then(if(0:Int)≤x11∧x11<(List.length x9) then(xH0 N x1 (List.getD x9 (Int.toNat x11) Ty.str.dflt)).bind fun r1=>bif(decide (r1<0)) then(if List.length x5+List.length [(List.getD x9 (Int.toNat x11) Ty.str.dflt)]≤Lim then(xEv N n x1 (x5++ [(List.getD x9 (Int.toNat x11) Ty.str.dflt)]) x9 x10 (IntKind.i64.wrap (x11+1))) else none) else((xEv N n x1 x5 x9 x10 (IntKind.i64.wrap (x11+1)))) else none) else(some x5)
def xH2(N:Nat)(a0:List Str)(a1:List Str):Option ((List Str)):=(xEv N N a1 [] a0 (List.length a0:Int) 0)
def xHt(a0:List Org)(a1:List Org):List Arg:= [.val (.v false [.sl .ro .org a0]), .val (.v false [.sl .ro .org a1])]
def xF6(r:(List Org)):CallO:=⟨.v false [.sl .own .org r], [], []⟩
def xHg(N:Nat)(a0 a1:List Org):Option (List Org):=zJr a0 a1
def xCu(a0:Val)(a1:Val)(a2:Val):List Arg:= [.val (.v true (Va .ro a0)), .val (.v true (Va .ro a1)), .val (.v true (Va .ro a2))]
def xJG(r:Val × Bool):CallO:=⟨.v true [.int .i64 (Val.kind r.1), .int .i64 (Val.n r.1), .int .i64 (Val.step r.1), .str (Val.text r.1), .sl .ro .val (Val.list r.1), .sl .ro .str (Val.columns r.1), .sl .ro .row (Val.rows r.1)], [], []⟩
def xA1(r:Val × Bool):CallO:=⟨.v true [.int .i64 (Val.kind r.1), .int .i64 (Val.n r.1), .int .i64 (Val.step r.1), .str (Val.text r.1), .sl .own .val (Val.list r.1), .sl .own .str (Val.columns r.1), .sl .own .row (Val.rows r.1)], [], []⟩
def xA4(r:Val × Bool):CallO:=⟨.v true [.int .i64 (Val.kind r.1), .int .i64 (Val.n r.1), .int .i64 (Val.step r.1), .str (Val.text r.1), .sl .ro .val [], .sl .ro .str [], .sl .ro .row []], [], []⟩
def xC0(r:Val × Bool):CallO:=bif r.2 then xJG r else xA1 r
def xFg(N:Nat)(k13:Int→Int→(List Rowd)→Int→Int→Val→Val→Val→Option (Val × Bool)):Nat→Int→Int→(List Rowd)→Int→Int→(List Rowd)→Int→Int→Val→Val→Val→Rowd→Option (Val × Bool)
 |0,_,_,_,_,_,_,_,_,_,_,_,_=>none
 |n+1,x9,x10,x69,x70,x71,x76,x77,x78,b5,b6,b12,b14=>bif(decide (x78<x77)) then(if(0:Int)≤x78∧x78<(List.length x76) then if(0:Int)≤x9∧x9<(List.length (Rowd.cells b14)) then if(0:Int)≤x10∧x10<(List.length (Rowd.cells (List.getD x76 (Int.toNat x78) Ty.row.dflt))) then bif((List.getD (Rowd.cells b14) (Int.toNat x9) Ty.int.dflt) != (List.getD (Rowd.cells (List.getD x76 (Int.toNat x78) Ty.row.dflt)) (Int.toNat x10) Ty.int.dflt)) then((xFg N k13 n x9 x10 x69 x70 x71 x76 x77 (IntKind.i64.wrap (x78+1)) b5 b6 b12 b14)) else(if 0+List.length (Rowd.cells b14)≤Lim then if(0:Int)≤x10∧x10≤(List.length (Rowd.cells (List.getD x76 (Int.toNat x78) Ty.row.dflt))) then if List.length ([]++(Rowd.cells b14))+List.length (List.take (Int.toNat x10) (Rowd.cells (List.getD x76 (Int.toNat x78) Ty.row.dflt)))≤Lim then if(0:Int)≤(IntKind.i64.wrap (x10+1))∧(IntKind.i64.wrap (x10+1))≤(List.length (Rowd.cells (List.getD x76 (Int.toNat x78) Ty.row.dflt))) then if List.length (([]++(Rowd.cells b14))++(List.take (Int.toNat x10) (Rowd.cells (List.getD x76 (Int.toNat x78) Ty.row.dflt))))+List.length (List.drop (Int.toNat (IntKind.i64.wrap (x10+1))) (Rowd.cells (List.getD x76 (Int.toNat x78) Ty.row.dflt)))≤Lim then(xHg N (Rowd.frm b14) (Rowd.frm (List.getD x76 (Int.toNat x78) Ty.row.dflt))).bind fun r1=>if List.length (Val.rows b12)+List.length [(Rowd.mk ((([]++(Rowd.cells b14))++(List.take (Int.toNat x10) (Rowd.cells (List.getD x76 (Int.toNat x78) Ty.row.dflt))))++(List.drop (Int.toNat (IntKind.i64.wrap (x10+1))) (Rowd.cells (List.getD x76 (Int.toNat x78) Ty.row.dflt)))) r1)]≤Lim then(xFg N k13 n x9 x10 x69 x70 x71 x76 x77 (IntKind.i64.wrap (x78+1)) b5 b6 (Val.mk (Val.kind b12) (Val.n b12) (Val.step b12) (Val.text b12) (Val.list b12) (Val.columns b12) ((Val.rows b12)++ [(Rowd.mk ((([]++(Rowd.cells b14))++(List.take (Int.toNat x10) (Rowd.cells (List.getD x76 (Int.toNat x78) Ty.row.dflt))))++(List.drop (Int.toNat (IntKind.i64.wrap (x10+1))) (Rowd.cells (List.getD x76 (Int.toNat x78) Ty.row.dflt)))) r1)])) b14)
    else none else none else none else none else none else none) else none else none else none) else((k13 x9 x10 x69 x70 (IntKind.i64.wrap (x71+1)) b5 b6 b12))
def xDW(N:Nat):Nat→Int→Int→(List Rowd)→Int→Int→Val→Val→Val→Option (Val × Bool)
 |0,_,_,_,_,_,_,_,_=>none
 |n+1,x9,x10,x69,x70,x71,b5,b6,b12=>bif(decide (x71<x70)) then(if(0:Int)≤x71∧x71<(List.length x69) then(xFg N (fun z0 z1 z2 z3 z4 z5 z6 z7=>(xDW N n z0 z1 z2 z3 z4 z5 z6 z7)) N x9 x10 x69 x70 x71 (Val.rows b5) (List.length (Val.rows b5):Int) 0 b5 b6 b12 (List.getD x69 (Int.toNat x71) Ty.row.dflt)) else none) else(bif(decide ((List.length (Val.rows b12):Int)>12)) then((xBK N 6).bind fun r1=>some (r1,false)) else(some (b12,false)))
def xF1(N:Nat)(a0:Val)(a1:Val)(a2:Val):Option (Val × Bool):=(xHF N [2,5,5] [(Val.re a0),(Val.re a1),(Val.re a2)]).bind fun r1=>bif r1.2.2 then(if List.isEmpty (Val.list r1.1)=true then if List.isEmpty (Val.columns r1.1)=true then if List.isEmpty (Val.rows r1.1)=true then bif r1.2.1 then(some ((Val.mk (Val.kind r1.1) (Val.n r1.1) (Val.step r1.1) (Val.text r1.1) [] [] []),true)) else((xD5 N a1 (Val.text a0)).bind fun r2=>(xD5 N a2 (Val.text a0)).bind fun r3=>(xH2 N (Val.columns a2) [(Val.text a0)]).bind fun r4=>if 0+List.length (Val.columns a1)≤Lim then if List.length ([]++(Val.columns a1))+List.length r4≤Lim then bif(decide (r2<0)) then((xBK N 7).bind fun r5=>some (r5,false)) else(bif(decide (r3<0)) then((xBK N 7).bind fun r5=>some (r5,false)) else((xFB N (([]++(Val.columns a1))++r4)).bind fun r5=>bif(!r5) then((xBK N 7).bind fun r6=>some (r6,false)) else(bif(decide (((List.length (([]++(Val.columns a1))++r4):Int):Int)>4)) then((xBK N 6).bind fun r6=>some (r6,false)) else((xDW N N r2 r3 (Val.rows a1) (List.length (Val.rows a1):Int) 0 a2 (Val.mk 0 0 0 [] [] [] []) (Val.mk 5 0 0 [] [] (([]++(Val.columns a1))++r4) [])))))) else none else none) else none else none else none) else(bif r1.2.1 then(some (r1.1,false)) else((xD5 N a1 (Val.text a0)).bind fun r2=>(xD5 N a2 (Val.text a0)).bind fun r3=>(xH2 N (Val.columns a2) [(Val.text a0)]).bind fun r4=>if 0+List.length (Val.columns a1)≤Lim then if List.length ([]++(Val.columns a1))+List.length r4≤Lim then bif(decide (r2<0)) then((xBK N 7).bind fun r5=>some (r5,false)) else(bif(decide (r3<0)) then((xBK N 7).bind fun r5 =>
     some (r5,false)) else((xFB N (([]++(Val.columns a1))++r4)).bind fun r5=>bif(!r5) then((xBK N 7).bind fun r6=>some (r6,false)) else(bif(decide (((List.length (([]++(Val.columns a1))++r4):Int):Int)>4)) then((xBK N 6).bind fun r6=>some (r6,false)) else((xDW N N r2 r3 (Val.rows a1) (List.length (Val.rows a1):Int) 0 a2 (Val.mk 0 0 0 [] [] [] []) (Val.mk 5 0 0 [] [] (([]++(Val.columns a1))++r4) [])))))) else none else none))
def xGb(a0:List Str)(a1:List Str):List Arg:= [.val (.v false [.sl .ro .str a0]), .val (.v false [.sl .ro .str a1])]
def xC2(r:Bool):CallO:=⟨.v false [.bool r], [], []⟩
def xE3(N:Nat):Nat→(List Str)→(List Str)→Int→Option (Bool)
 |0,_,_,_=>none
 |n+1,x0,x1,x5=>bif(decide (x5<(List.length x0:Int))) then(if(0:Int)≤x5∧x5<(List.length x0) then if(0:Int)≤x5∧x5<(List.length x1) then bif(!(((List.getD x0 (Int.toNat x5) Ty.str.dflt):Str)==(List.getD x1 (Int.toNat x5) Ty.str.dflt))) then(some false) else((xE3 N n x0 x1 (IntKind.i64.wrap (x5+1)))) else none else none) else(some true)
def xHJ(N:Nat)(a0:List Str)(a1:List Str):Option (Bool):=bif((List.length a0:Int) != (List.length a1:Int)) then(some false) else((xE3 N N a0 a1 0))
def xHH(a0:List Int)(a1:List Int):List Arg:= [.val (.v false [.sl .ro .int a0]), .val (.v false [.sl .ro .int a1])]
def xDQ(r:Bool):CallO:=⟨.v false [.bool r], [], []⟩
def xGO(N:Nat):Nat→(List Int)→(List Int)→Int→Option (Bool)
 |0,_,_,_=>none
 |n+1,x0,x1,x5=>bif(decide (x5<(List.length x0:Int))) then(if(0:Int)≤x5∧x5<(List.length x0) then if(0:Int)≤x5∧x5<(List.length x1) then bif((List.getD x0 (Int.toNat x5) Ty.int.dflt) != (List.getD x1 (Int.toNat x5) Ty.int.dflt)) then(some false) else((xGO N n x0 x1 (IntKind.i64.wrap (x5+1)))) else none else none) else(some true)
def xJH(N:Nat)(a0:List Int)(a1:List Int):Option (Bool):=bif((List.length a0:Int) != (List.length a1:Int)) then(some false) else((xGO N N a0 a1 0))
def xEK(a0:Org)(a1:Org):List Arg:= [.val (.v true [.int .i64 (Org.cell a0), .int .i64 (Org.row a0)]), .val (.v true [.int .i64 (Org.cell a1), .int .i64 (Org.row a1)])]
def xDB(r:Bool):CallO:=⟨.v false [.bool r], [], []⟩
def xIh(N:Nat)(a0:Org)(a1:Org):Option (Bool):=bif((Org.cell a0) != (Org.cell a1)) then(some false) else(bif((Org.row a0) != (Org.row a1)) then(some false) else(some true))
def xE1(a0:List Org)(a1:List Org):List Arg:= [.val (.v false [.sl .ro .org a0]), .val (.v false [.sl .ro .org a1])]
def xC1(r:Bool):CallO:=⟨.v false [.bool r], [], []⟩
def xE2(N:Nat):Nat→(List Org)→(List Org)→Int→Option (Bool)
 |0,_,_,_=>none
 |n+1,x0,x1,x5=>bif(decide (x5<(List.length x0:Int))) then(if(0:Int)≤x5∧x5<(List.length x0) then if(0:Int)≤x5∧x5<(List.length x1) then(xIh N (List.getD x0 (Int.toNat x5) Ty.org.dflt) (List.getD x1 (Int.toNat x5) Ty.org.dflt)).bind fun r1=>bif(!r1) then(some false) else((xE2 N n x0 x1 (IntKind.i64.wrap (x5+1)))) else none else none) else(some true)
def xHI(N:Nat)(a0:List Org)(a1:List Org):Option (Bool):=bif((List.length a0:Int) != (List.length a1:Int)) then(some false) else((xE2 N N a0 a1 0))
def xGs(a0:Rowd)(a1:Rowd):List Arg:= [.val (.v true [.sl .ro .int (Rowd.cells a0), .sl .ro .org (Rowd.frm a0)]), .val (.v true [.sl .ro .int (Rowd.cells a1), .sl .ro .org (Rowd.frm a1)])]
def xES(r:Bool):CallO:=⟨.v false [.bool r], [], []⟩
def xKO(N:Nat)(a0:Rowd)(a1:Rowd):Option (Bool):=(xJH N (Rowd.cells a0) (Rowd.cells a1)).bind fun r1=>bif(!r1) then(some false) else((xHI N (Rowd.frm a0) (Rowd.frm a1)).bind fun r2=>bif(!r2) then(some false) else(some true))
def xGP(a0:List Rowd)(a1:List Rowd):List Arg:= [.val (.v false [.sl .ro .row a0]), .val (.v false [.sl .ro .row a1])]
def xDR(r:Bool):CallO:=⟨.v false [.bool r], [], []⟩
def xGQ(N:Nat):Nat→(List Rowd)→(List Rowd)→Int→Option (Bool)
 |0,_,_,_=>none
 |n+1,x0,x1,x5=>bif(decide (x5<(List.length x0:Int))) then(if(0:Int)≤x5∧x5<(List.length x0) then if(0:Int)≤x5∧x5<(List.length x1) then(xKO N (List.getD x0 (Int.toNat x5) Ty.row.dflt) (List.getD x1 (Int.toNat x5) Ty.row.dflt)).bind fun r1=>bif(!r1) then(some false) else((xGQ N n x0 x1 (IntKind.i64.wrap (x5+1)))) else none else none) else(some true)
def xJI(N:Nat)(a0:List Rowd)(a1:List Rowd):Option (Bool):=bif((List.length a0:Int) != (List.length a1:Int)) then(some false) else((xGQ N N a0 a1 0))
def xB2(a0:Val)(a1:Val):List Arg:= [.val (.v true (Va .ro a0)), .val (.v true (Va .ro a1))]
def xAc(r:Bool):CallO:=⟨.v false [.bool r], [], []⟩
def xGc(N:Nat)(q0:Val→Val→Option (Bool))(q1:(List Val)→(List Val)→Option (Bool))(a0:Val)(a1:Val):Option (Bool):=bif((Val.kind a0) != (Val.kind a1)) then(some false) else(bif((Val.n a0) != (Val.n a1)) then(some false) else(bif((Val.step a0) != (Val.step a1)) then(some false) else(bif(!(((Val.text a0):Str)==(Val.text a1))) then(some false) else((q1 (Val.list a0) (Val.list a1)).bind fun r1=>bif(!r1) then(some false) else((xHJ N (Val.columns a0) (Val.columns a1)).bind fun r2=>bif(!r2) then(some false) else((xJI N (Val.rows a0) (Val.rows a1)).bind fun r3=>bif(!r3) then(some false) else(some true)))))))
def xFD(a0:List Val)(a1:List Val):List Arg:= [.val (.v false [.sl .ro .val a0]), .val (.v false [.sl .ro .val a1])]
def xCJ(r:Bool):CallO:=⟨.v false [.bool r], [], []⟩
def xFE(N:Nat)(q0:Val→Val→Option (Bool))(q1:(List Val)→(List Val)→Option (Bool)):Nat→(List Val)→(List Val)→Int→Option (Bool)
 |0,_,_,_=>none
 |n+1,x0,x1,x5=>bif(decide (x5<(List.length x0:Int))) then(if(0:Int)≤x5∧x5<(List.length x0) then if(0:Int)≤x5∧x5<(List.length x1) then(q0 (List.getD x0 (Int.toNat x5) Ty.val.dflt) (List.getD x1 (Int.toNat x5) Ty.val.dflt)).bind fun r1=>bif(!r1) then(some false) else((xFE N q0 q1 n x0 x1 (IntKind.i64.wrap (x5+1)))) else none else none) else(some true)
def xFR(N:Nat)(q0:Val→Val→Option (Bool))(q1:(List Val)→(List Val)→Option (Bool))(a0:List Val)(a1:List Val):Option (Bool):=bif((List.length a0:Int) != (List.length a1:Int)) then(some false) else((xFE N q0 q1 N a0 a1 0))
structure laws_eqValue_rec where
 c_laws_eqValue:Val→Val→Option (Bool)
 c_laws_eqValueS:(List Val)→(List Val)→Option (Bool)
def xB1(N:Nat):Nat→laws_eqValue_rec
 |0=>⟨fun _ _=>none,fun _ _=>none⟩
 |d+1=>⟨xGc N (xB1 N d).c_laws_eqValue (xB1 N d).c_laws_eqValueS,xFR N (xB1 N d).c_laws_eqValue (xB1 N d).c_laws_eqValueS⟩
def xC5(N:Nat)(a0:Val)(a1:Val):Option (Bool):=(xB1 N N).c_laws_eqValue a0 a1
def xD8(a0:Int):List Arg:= [.val (.v false [.int .i64 a0])]
def xBF(r:Str):CallO:=⟨.v false [.str r], [], []⟩
def xFL(N:Nat):Nat→Int→Str→Option (Str)
 |0,_,_=>none
 |n+1,x0,x3=>bif(decide (x0>0)) then(if List.length (List.map (fun n=>UInt8.ofNat (Int.toNat n)) [(IntKind.u8.wrap ((IntKind.i64.wrap (48+(Int.tmod x0 10)))))])+List.length x3≤Lim then(xFL N n (IntKind.i64.wrap (Int.tdiv x0 10)) ((List.map (fun n=>UInt8.ofNat (Int.toNat n)) [(IntKind.u8.wrap ((IntKind.i64.wrap (48+(Int.tmod x0 10)))))])++x3)) else none) else(if List.length [109]+List.length x3≤Lim then some ([109]++x3) else none)
def xET(N:Nat)(a0:Int):Option (Str):=bif(decide (a0≤0)) then(some [109,48]) else((xFL N N a0 []))
def xFS(a0:List Str)(a1:Int):List Arg:= [.val (.v false [.sl .ro .str []]), .val (.v false [.int .i64 a1])]
def xDO(r:Int):CallO:=⟨.v false [.int .i64 r], [], []⟩
def xG9(N:Nat):Nat→Int→Int→Option (Int)
 |0,_,_=>none
 |n+1,x1,x5=>bif(decide (x5<(0:Int))) then((xET N x1).bind fun r1=>if(0:Int)≤x5∧x5<(0) then none else none) else(some x1)
def xG0(N:Nat)(a0:List Str)(a1:Int):Option (Int):=(xG9 N N a1 0)
def xFl(a0:List Str)(a1:Int):List Arg:= [.val (.v false [.sl (.lnt 0) .str a0]), .val (.v false [.int .i64 a1])]
def xDa(r:Int × (List Str)):CallO:=⟨.v false [.int .i64 r.1], [], [.sl (.lnt 0) .str r.2]⟩
def xEn(N:Nat):Nat→(List Str)→Int→Int→Option (Int × (List Str))
 |0,_,_,_=>none
 |n+1,x0,x1,x5=>bif(decide (x5<(List.length x0:Int))) then((xET N x1).bind fun r1=>if(0:Int)≤x5∧x5<(List.length x0) then(xEn N n (List.set x0 (Int.toNat x5) r1) (IntKind.i64.wrap (x1+1)) (IntKind.i64.wrap (x5+1))) else none) else(some (x1,x0))
def xGE(N:Nat)(a0:List Str)(a1:Int):Option (Int × (List Str)):=(xEn N N a0 a1 0)
def xHR(a0:List Int)(a1:Int):List Arg:= [.val (.v false [.sl (.lnt 0) .int a0]), .val (.v false [.int .i64 a1])]
def xFJ(r:Int × (List Int)):CallO:=⟨.v false [.int .i64 r.1], [], [.sl (.lnt 0) .int r.2]⟩
def xFI(N:Nat):Nat→(List Int)→Int→Int→Option (Int × (List Int))
 |0,_,_,_=>none
 |n+1,x0,x1,x5=>bif(decide (x5<(List.length x0:Int))) then(if(0:Int)≤x5∧x5<(List.length x0) then(xFI N n (List.set x0 (Int.toNat x5) x1) (IntKind.i64.wrap (x1+1)) (IntKind.i64.wrap (x5+1))) else none) else(some (x1,x0))
def xJp(N:Nat)(a0:List Int)(a1:Int):Option (Int × (List Int)):=(xFI N N a0 a1 0)
def xGZ(a0:List Rowd)(a1:Int):List Arg:= [.val (.v false [.sl .ro .row []]), .val (.v false [.int .i64 a1])]
def xEF(r:Int):CallO:=⟨.v false [.int .i64 r], [], []⟩
def xIl(N:Nat):Nat→Int→Int→Option (Int)
 |0,_,_=>none
 |n+1,x1,x5=>bif(decide (x5<(0:Int))) then(if(0:Int)≤x5∧x5<(0) then none else none) else(some x1)
def xIk(N:Nat)(a0:List Rowd)(a1:Int):Option (Int):=(xIl N N a1 0)
def xGu(a0:Val)(a1:Int):List Arg:= [.val (.v true [.int .i64 (Val.kind a0), .int .i64 (Val.n a0), .int .i64 (Val.step a0), .str (Val.text a0), .sl .ro .val [], .sl .ro .str [], .sl .ro .row []]), .val (.v false [.int .i64 a1])]
def xBM(r:Int):CallO:=⟨.v false [.int .i64 r], [], []⟩
def xGF(N:Nat)(a0:Val)(a1:Int):Option (Int):=(xHj N [] a1).bind fun r1=>(xG0 N [] r1).bind fun r2=>(xIk N [] r2).bind fun r3=>some r3
def xGt(a0:List Org)(a1:Int):List Arg:= [.val (.v false [.sl (.lnt 0) .org a0]), .val (.v false [.int .i64 a1])]
def xEm(r:Int × (List Org)):CallO:=⟨.v false [.int .i64 r.1], [], [.sl (.lnt 0) .org r.2]⟩
def xEl(N:Nat):Nat→(List Org)→Int→Int→Option (Int × (List Org))
 |0,_,_,_=>none
 |n+1,x0,x1,x5=>bif(decide (x5<(List.length x0:Int))) then(if(0:Int)≤x5∧x5<(List.length x0) then if(0:Int)≤x5∧x5<(List.length (List.set x0 (Int.toNat x5) (Org.mk x1 (Org.row (List.getD x0 (Int.toNat x5) Ty.org.dflt))))) then(xEl N n ((fun(z1:List Org)=>List.set z1 (Int.toNat x5) (Org.mk (Org.cell (List.getD z1 (Int.toNat x5) Ty.org.dflt)) (IntKind.i64.wrap (x1+1)))) (List.set x0 (Int.toNat x5) (Org.mk x1 (Org.row (List.getD x0 (Int.toNat x5) Ty.org.dflt))))) (IntKind.i64.wrap ((IntKind.i64.wrap (x1+1))+1)) (IntKind.i64.wrap (x5+1))) else none else none) else(some (x1,x0))
def xHS(N:Nat)(a0:List Org)(a1:Int):Option (Int × (List Org)):=(xEl N N a0 a1 0)
def xGD(a0:List Rowd)(a1:Int):List Arg:= [.val (.v false [.sl (.lnt 0) .row a0]), .val (.v false [.int .i64 a1])]
def xD7(r:Int × (List Rowd)):CallO:=⟨.v false [.int .i64 r.1], [], [.sl (.lnt 0) .row r.2]⟩
def xFK(N:Nat):Nat→(List Rowd)→Int→Int→Option (Int × (List Rowd))
 |0,_,_,_=>none
 |n+1,x0,x1,x5=>bif(decide (x5<(List.length x0:Int))) then(if(0:Int)≤x5∧x5<(List.length x0) then(xJp N (Rowd.cells (List.getD x0 (Int.toNat x5) Ty.row.dflt)) x1).bind fun r1=>if List.length r1.2=List.length (Rowd.cells (List.getD x0 (Int.toNat x5) Ty.row.dflt)) then if(0:Int)≤x5∧x5<(List.length (List.set x0 (Int.toNat x5) (Rowd.mk r1.2 (Rowd.frm (List.getD x0 (Int.toNat x5) Ty.row.dflt))))) then(xHS N (Rowd.frm (List.getD (List.set x0 (Int.toNat x5) (Rowd.mk r1.2 (Rowd.frm (List.getD x0 (Int.toNat x5) Ty.row.dflt)))) (Int.toNat x5) Ty.row.dflt)) r1.1).bind fun r2=>if List.length r2.2=List.length (Rowd.frm (List.getD (List.set x0 (Int.toNat x5) (Rowd.mk r1.2 (Rowd.frm (List.getD x0 (Int.toNat x5) Ty.row.dflt)))) (Int.toNat x5) Ty.row.dflt)) then(xFK N n ((fun(z1:List Rowd)=>List.set z1 (Int.toNat x5) (Rowd.mk (Rowd.cells (List.getD z1 (Int.toNat x5) Ty.row.dflt)) r2.2)) (List.set x0 (Int.toNat x5) (Rowd.mk r1.2 (Rowd.frm (List.getD x0 (Int.toNat x5) Ty.row.dflt))))) r2.1 (IntKind.i64.wrap (x5+1))) else none else none else none else none) else(some (x1,x0))
def xIj(N:Nat)(a0:List Rowd)(a1:Int):Option (Int × (List Rowd)):=(xFK N N a0 a1 0)
def xD0(a0:List Val)(a1:Int):List Arg:= [.val (.v false [.sl (.lnt 0) .val a0]), .val (.v false [.int .i64 a1])]
def xCR(r:Int × (List Val)):CallO:=⟨.v false [.int .i64 r.1], [], [.sl (.lnt 0) .val r.2]⟩
def xEG(N:Nat)(q0:(List Val)→Int→Option (Int × (List Val))):Nat→(List Val)→Int→Int→Option (Int × (List Val))
 |0,_,_,_=>none
 |n+1,x0,x1,x5=>bif(decide (x5<(List.length x0:Int))) then(if(0:Int)≤x5∧x5<(List.length x0) then if(0:Int)≤x5∧x5<(List.length (List.set x0 (Int.toNat x5) (Val.mk x1 (Val.n (List.getD x0 (Int.toNat x5) Ty.val.dflt)) (Val.step (List.getD x0 (Int.toNat x5) Ty.val.dflt)) (Val.text (List.getD x0 (Int.toNat x5) Ty.val.dflt)) (Val.list (List.getD x0 (Int.toNat x5) Ty.val.dflt)) (Val.columns (List.getD x0 (Int.toNat x5) Ty.val.dflt)) (Val.rows (List.getD x0 (Int.toNat x5) Ty.val.dflt))))) then if(0:Int)≤x5∧x5<(List.length ((fun(z40:List Val)=>List.set z40 (Int.toNat x5) (Val.mk (Val.kind (List.getD z40 (Int.toNat x5) Ty.val.dflt)) (IntKind.i64.wrap (x1+1)) (Val.step (List.getD z40 (Int.toNat x5) Ty.val.dflt)) (Val.text (List.getD z40 (Int.toNat x5) Ty.val.dflt)) (Val.list (List.getD z40 (Int.toNat x5) Ty.val.dflt)) (Val.columns (List.getD z40 (Int.toNat x5) Ty.val.dflt)) (Val.rows (List.getD z40 (Int.toNat x5) Ty.val.dflt)))) (List.set x0 (Int.toNat x5) (Val.mk x1 (Val.n (List.getD x0 (Int.toNat x5) Ty.val.dflt)) (Val.step (List.getD x0 (Int.toNat x5) Ty.val.dflt)) (Val.text (List.getD x0 (Int.toNat x5) Ty.val.dflt)) (Val.list (List.getD x0 (Int.toNat x5) Ty.val.dflt)) (Val.columns (List.getD x0 (Int.toNat x5) Ty.val.dflt)) (Val.rows (List.getD x0 (Int.toNat x5) Ty.val.dflt)))))) then(xET N (IntKind.i64.wrap ((IntKind.i64.wrap ((IntKind.i64.wrap (x1+1))+1))+1))).bind fun r1=>if(0:Int)≤x5∧x5<(List.length ((fun(z41:List Val)=>List.set z41 (Int.toNat x5) (Val.mk (Val.kind (List.getD z41 (Int.toNat x5) Ty.val.dflt)) (Val.n (List.getD z41 (Int.toNat x5) Ty.val.dflt)) (IntKind.i64.wrap ((IntKind.i64.wrap (x1+1))+1)) (Val.text (List.getD z41 (Int.toNat x5) Ty.val.dflt)) (Val.list (List.getD z41 (Int.toNat x5) Ty.val.dflt)) (Val.columns (List.getD z41 (Int.toNat x5) Ty.val.dflt)) (Val.rows (List.getD z41 (Int.toNat x5) Ty.val.dflt)))) ((fun(z40:List Val)=>List.set z40 (Int.toNat x5) (Val.mk (Val.kind (List.getD z40 (Int.toNat x5) Ty.val.dflt)) (IntKind.i64.wrap (x1+1)) (Val.step (List.getD z40 (Int.toNat x5) Ty.val.dflt)) (Val.text (List.getD z40 (Int.toNat x5) Ty.val.dflt)) (Val.list (List.getD z40 (Int.toNat x5) Ty.val.dflt)) (Val.columns (List.getD z40 (Int.toNat x5) Ty.val.dflt)) (Val.rows (List.getD z40 (Int.toNat x5) Ty.val.dflt)))) (List.set x0 (Int.toNat x5) (Val.mk x1 (Val.n (List.getD x0 (Int.toNat x5) Ty.val.dflt)) (Val.step (List.getD x0 (Int.toNat x5) Ty.val.dflt)) (Val.text (List.getD x0 (Int.toNat x5) Ty.val.dflt)) (Val.list (List.getD x0 (Int.toNat x5) Ty.val.dflt)) (Val.columns (List.getD x0 (Int.toNat x5) Ty.val.dflt)) (Val.rows (List.getD x0 (Int.toNat x5) Ty.val.dflt))))))) then
   if(0:Int)≤x5∧x5<(List.length ((fun(z42:List Val)=>List.set z42 (Int.toNat x5) (Val.mk (Val.kind (List.getD z42 (Int.toNat x5) Ty.val.dflt)) (Val.n (List.getD z42 (Int.toNat x5) Ty.val.dflt)) (Val.step (List.getD z42 (Int.toNat x5) Ty.val.dflt)) r1 (Val.list (List.getD z42 (Int.toNat x5) Ty.val.dflt)) (Val.columns (List.getD z42 (Int.toNat x5) Ty.val.dflt)) (Val.rows (List.getD z42 (Int.toNat x5) Ty.val.dflt)))) ((fun(z41:List Val)=>List.set z41 (Int.toNat x5) (Val.mk (Val.kind (List.getD z41 (Int.toNat x5) Ty.val.dflt)) (Val.n (List.getD z41 (Int.toNat x5) Ty.val.dflt)) (IntKind.i64.wrap ((IntKind.i64.wrap (x1+1))+1)) (Val.text (List.getD z41 (Int.toNat x5) Ty.val.dflt)) (Val.list (List.getD z41 (Int.toNat x5) Ty.val.dflt)) (Val.columns (List.getD z41 (Int.toNat x5) Ty.val.dflt)) (Val.rows (List.getD z41 (Int.toNat x5) Ty.val.dflt)))) ((fun(z40:List Val)=>List.set z40 (Int.toNat x5) (Val.mk (Val.kind (List.getD z40 (Int.toNat x5) Ty.val.dflt)) (IntKind.i64.wrap (x1+1)) (Val.step (List.getD z40 (Int.toNat x5) Ty.val.dflt)) (Val.text (List.getD z40 (Int.toNat x5) Ty.val.dflt)) (Val.list (List.getD z40 (Int.toNat x5) Ty.val.dflt)) (Val.columns (List.getD z40 (Int.toNat x5) Ty.val.dflt)) (Val.rows (List.getD z40 (Int.toNat x5) Ty.val.dflt)))) (List.set x0 (Int.toNat x5) (Val.mk x1 (Val.n (List.getD x0 (Int.toNat x5) Ty.val.dflt)) (Val.step (List.getD x0 (Int.toNat x5) Ty.val.dflt)) (Val.text (List.getD x0 (Int.toNat x5) Ty.val.dflt)) (Val.list (List.getD x0 (Int.toNat x5) Ty.val.dflt)) (Val.columns (List.getD x0 (Int.toNat x5) Ty.val.dflt)) (Val.rows (List.getD x0 (Int.toNat x5) Ty.val.dflt)))))))) then(q0 (Val.list (List.getD ((fun(z42:List Val)=>List.set z42 (Int.toNat x5) (Val.mk (Val.kind (List.getD z42 (Int.toNat x5) Ty.val.dflt)) (Val.n (List.getD z42 (Int.toNat x5) Ty.val.dflt)) (Val.step (List.getD z42 (Int.toNat x5) Ty.val.dflt)) r1 (Val.list (List.getD z42 (Int.toNat x5) Ty.val.dflt)) (Val.columns (List.getD z42 (Int.toNat x5) Ty.val.dflt)) (Val.rows (List.getD z42 (Int.toNat x5) Ty.val.dflt)))) ((fun(z41:List Val)=>List.set z41 (Int.toNat x5) (Val.mk (Val.kind (List.getD z41 (Int.toNat x5) Ty.val.dflt)) (Val.n (List.getD z41 (Int.toNat x5) Ty.val.dflt)) (IntKind.i64.wrap ((IntKind.i64.wrap (x1+1))+1)) (Val.text (List.getD z41 (Int.toNat x5) Ty.val.dflt)) (Val.list (List.getD z41 (Int.toNat x5) Ty.val.dflt)) (Val.columns (List.getD z41 (Int.toNat x5) Ty.val.dflt)) (Val.rows (List.getD z41 (Int.toNat x5) Ty.val.dflt)))) ((fun(z40:List Val)=>List.set z40 (Int.toNat x5) (Val.mk (Val.kind (List.getD z40 (Int.toNat x5) Ty.val.dflt)) (IntKind.i64.wrap (x1+1)) (Val.step (List.getD z40 (Int.toNat x5) Ty.val.dflt)) (Val.text (List.getD z40 (Int.toNat x5) Ty.val.dflt)) (Val.list (List.getD z40 (Int.toNat x5) Ty.val.dflt)) (Val.columns (List.getD z40 (Int.toNat x5) Ty.val.dflt)) (Val.rows (List.getD z40 (Int.toNat x5) Ty.val.dflt)))) (List.set x0 (Int.toNat x5) (Val.mk x1 (Val.n (List.getD x0 (Int.toNat x5) Ty.val.dflt)) (Val.step (List.getD x0 (Int.toNat x5) Ty.val.dflt)) (Val.text (List.getD x0 (Int.toNat x5) Ty.val.dflt)) (Val.list (List.getD x0 (Int.toNat x5) Ty.val.dflt)) (Val.columns (List.getD x0 (Int.toNat x5) Ty.val.dflt)) (Val.rows (List.getD x0 (Int.toNat x5) Ty.val.dflt))))))) (Int.toNat x5) Ty.val.dflt)) (IntKind.i64.wrap ((IntKind.i64.wrap ((IntKind.i64.wrap ((IntKind.i64.wrap (x1+1))+1))+1))+1))).bind fun r2 =>
   if List.length r2.2=List.length (Val.list (List.getD ((fun(z42:List Val)=>List.set z42 (Int.toNat x5) (Val.mk (Val.kind (List.getD z42 (Int.toNat x5) Ty.val.dflt)) (Val.n (List.getD z42 (Int.toNat x5) Ty.val.dflt)) (Val.step (List.getD z42 (Int.toNat x5) Ty.val.dflt)) r1 (Val.list (List.getD z42 (Int.toNat x5) Ty.val.dflt)) (Val.columns (List.getD z42 (Int.toNat x5) Ty.val.dflt)) (Val.rows (List.getD z42 (Int.toNat x5) Ty.val.dflt)))) ((fun(z41:List Val)=>List.set z41 (Int.toNat x5) (Val.mk (Val.kind (List.getD z41 (Int.toNat x5) Ty.val.dflt)) (Val.n (List.getD z41 (Int.toNat x5) Ty.val.dflt)) (IntKind.i64.wrap ((IntKind.i64.wrap (x1+1))+1)) (Val.text (List.getD z41 (Int.toNat x5) Ty.val.dflt)) (Val.list (List.getD z41 (Int.toNat x5) Ty.val.dflt)) (Val.columns (List.getD z41 (Int.toNat x5) Ty.val.dflt)) (Val.rows (List.getD z41 (Int.toNat x5) Ty.val.dflt)))) ((fun(z40:List Val)=>List.set z40 (Int.toNat x5) (Val.mk (Val.kind (List.getD z40 (Int.toNat x5) Ty.val.dflt)) (IntKind.i64.wrap (x1+1)) (Val.step (List.getD z40 (Int.toNat x5) Ty.val.dflt)) (Val.text (List.getD z40 (Int.toNat x5) Ty.val.dflt)) (Val.list (List.getD z40 (Int.toNat x5) Ty.val.dflt)) (Val.columns (List.getD z40 (Int.toNat x5) Ty.val.dflt)) (Val.rows (List.getD z40 (Int.toNat x5) Ty.val.dflt)))) (List.set x0 (Int.toNat x5) (Val.mk x1 (Val.n (List.getD x0 (Int.toNat x5) Ty.val.dflt)) (Val.step (List.getD x0 (Int.toNat x5) Ty.val.dflt)) (Val.text (List.getD x0 (Int.toNat x5) Ty.val.dflt)) (Val.list (List.getD x0 (Int.toNat x5) Ty.val.dflt)) (Val.columns (List.getD x0 (Int.toNat x5) Ty.val.dflt)) (Val.rows (List.getD x0 (Int.toNat x5) Ty.val.dflt))))))) (Int.toNat x5) Ty.val.dflt)) then if(0:Int)≤x5∧x5<(List.length ((fun(z43:List Val)=>List.set z43 (Int.toNat x5) (Val.mk (Val.kind (List.getD z43 (Int.toNat x5) Ty.val.dflt)) (Val.n (List.getD z43 (Int.toNat x5) Ty.val.dflt)) (Val.step (List.getD z43 (Int.toNat x5) Ty.val.dflt)) (Val.text (List.getD z43 (Int.toNat x5) Ty.val.dflt)) r2.2 (Val.columns (List.getD z43 (Int.toNat x5) Ty.val.dflt)) (Val.rows (List.getD z43 (Int.toNat x5) Ty.val.dflt)))) ((fun(z42:List Val)=>List.set z42 (Int.toNat x5) (Val.mk (Val.kind (List.getD z42 (Int.toNat x5) Ty.val.dflt)) (Val.n (List.getD z42 (Int.toNat x5) Ty.val.dflt)) (Val.step (List.getD z42 (Int.toNat x5) Ty.val.dflt)) r1 (Val.list (List.getD z42 (Int.toNat x5) Ty.val.dflt)) (Val.columns (List.getD z42 (Int.toNat x5) Ty.val.dflt)) (Val.rows (List.getD z42 (Int.toNat x5) Ty.val.dflt)))) ((fun(z41:List Val)=>List.set z41 (Int.toNat x5) (Val.mk (Val.kind (List.getD z41 (Int.toNat x5) Ty.val.dflt)) (Val.n (List.getD z41 (Int.toNat x5) Ty.val.dflt)) (IntKind.i64.wrap ((IntKind.i64.wrap (x1+1))+1)) (Val.text (List.getD z41 (Int.toNat x5) Ty.val.dflt)) (Val.list (List.getD z41 (Int.toNat x5) Ty.val.dflt)) (Val.columns (List.getD z41 (Int.toNat x5) Ty.val.dflt)) (Val.rows (List.getD z41 (Int.toNat x5) Ty.val.dflt)))) ((fun(z40:List Val)=>List.set z40 (Int.toNat x5) (Val.mk (Val.kind (List.getD z40 (Int.toNat x5) Ty.val.dflt)) (IntKind.i64.wrap (x1+1)) (Val.step (List.getD z40 (Int.toNat x5) Ty.val.dflt)) (Val.text (List.getD z40 (Int.toNat x5) Ty.val.dflt)) (Val.list (List.getD z40 (Int.toNat x5) Ty.val.dflt)) (Val.columns (List.getD z40 (Int.toNat x5) Ty.val.dflt)) (Val.rows (List.getD z40 (Int.toNat x5) Ty.val.dflt)))) (List.set x0 (Int.toNat x5) (Val.mk x1 (Val.n (List.getD x0 (Int.toNat x5) Ty.val.dflt)) (Val.step (List.getD x0 (Int.toNat x5) Ty.val.dflt)) (Val.text (List.getD x0 (Int.toNat x5) Ty.val.dflt)) (Val.list (List.getD x0 (Int.toNat x5) Ty.val.dflt)) (Val.columns (List.getD x0 (Int.toNat x5) Ty.val.dflt)) (Val.rows (List.getD x0 (Int.toNat x5) Ty.val.dflt))))))))) then
   (xGE N (Val.columns (List.getD ((fun(z43:List Val)=>List.set z43 (Int.toNat x5) (Val.mk (Val.kind (List.getD z43 (Int.toNat x5) Ty.val.dflt)) (Val.n (List.getD z43 (Int.toNat x5) Ty.val.dflt)) (Val.step (List.getD z43 (Int.toNat x5) Ty.val.dflt)) (Val.text (List.getD z43 (Int.toNat x5) Ty.val.dflt)) r2.2 (Val.columns (List.getD z43 (Int.toNat x5) Ty.val.dflt)) (Val.rows (List.getD z43 (Int.toNat x5) Ty.val.dflt)))) ((fun(z42:List Val)=>List.set z42 (Int.toNat x5) (Val.mk (Val.kind (List.getD z42 (Int.toNat x5) Ty.val.dflt)) (Val.n (List.getD z42 (Int.toNat x5) Ty.val.dflt)) (Val.step (List.getD z42 (Int.toNat x5) Ty.val.dflt)) r1 (Val.list (List.getD z42 (Int.toNat x5) Ty.val.dflt)) (Val.columns (List.getD z42 (Int.toNat x5) Ty.val.dflt)) (Val.rows (List.getD z42 (Int.toNat x5) Ty.val.dflt)))) ((fun(z41:List Val)=>List.set z41 (Int.toNat x5) (Val.mk (Val.kind (List.getD z41 (Int.toNat x5) Ty.val.dflt)) (Val.n (List.getD z41 (Int.toNat x5) Ty.val.dflt)) (IntKind.i64.wrap ((IntKind.i64.wrap (x1+1))+1)) (Val.text (List.getD z41 (Int.toNat x5) Ty.val.dflt)) (Val.list (List.getD z41 (Int.toNat x5) Ty.val.dflt)) (Val.columns (List.getD z41 (Int.toNat x5) Ty.val.dflt)) (Val.rows (List.getD z41 (Int.toNat x5) Ty.val.dflt)))) ((fun(z40:List Val)=>List.set z40 (Int.toNat x5) (Val.mk (Val.kind (List.getD z40 (Int.toNat x5) Ty.val.dflt)) (IntKind.i64.wrap (x1+1)) (Val.step (List.getD z40 (Int.toNat x5) Ty.val.dflt)) (Val.text (List.getD z40 (Int.toNat x5) Ty.val.dflt)) (Val.list (List.getD z40 (Int.toNat x5) Ty.val.dflt)) (Val.columns (List.getD z40 (Int.toNat x5) Ty.val.dflt)) (Val.rows (List.getD z40 (Int.toNat x5) Ty.val.dflt)))) (List.set x0 (Int.toNat x5) (Val.mk x1 (Val.n (List.getD x0 (Int.toNat x5) Ty.val.dflt)) (Val.step (List.getD x0 (Int.toNat x5) Ty.val.dflt)) (Val.text (List.getD x0 (Int.toNat x5) Ty.val.dflt)) (Val.list (List.getD x0 (Int.toNat x5) Ty.val.dflt)) (Val.columns (List.getD x0 (Int.toNat x5) Ty.val.dflt)) (Val.rows (List.getD x0 (Int.toNat x5) Ty.val.dflt)))))))) (Int.toNat x5) Ty.val.dflt)) r2.1).bind fun r3 =>
   if List.length r3.2=List.length (Val.columns (List.getD ((fun(z43:List Val)=>List.set z43 (Int.toNat x5) (Val.mk (Val.kind (List.getD z43 (Int.toNat x5) Ty.val.dflt)) (Val.n (List.getD z43 (Int.toNat x5) Ty.val.dflt)) (Val.step (List.getD z43 (Int.toNat x5) Ty.val.dflt)) (Val.text (List.getD z43 (Int.toNat x5) Ty.val.dflt)) r2.2 (Val.columns (List.getD z43 (Int.toNat x5) Ty.val.dflt)) (Val.rows (List.getD z43 (Int.toNat x5) Ty.val.dflt)))) ((fun(z42:List Val)=>List.set z42 (Int.toNat x5) (Val.mk (Val.kind (List.getD z42 (Int.toNat x5) Ty.val.dflt)) (Val.n (List.getD z42 (Int.toNat x5) Ty.val.dflt)) (Val.step (List.getD z42 (Int.toNat x5) Ty.val.dflt)) r1 (Val.list (List.getD z42 (Int.toNat x5) Ty.val.dflt)) (Val.columns (List.getD z42 (Int.toNat x5) Ty.val.dflt)) (Val.rows (List.getD z42 (Int.toNat x5) Ty.val.dflt)))) ((fun(z41:List Val)=>List.set z41 (Int.toNat x5) (Val.mk (Val.kind (List.getD z41 (Int.toNat x5) Ty.val.dflt)) (Val.n (List.getD z41 (Int.toNat x5) Ty.val.dflt)) (IntKind.i64.wrap ((IntKind.i64.wrap (x1+1))+1)) (Val.text (List.getD z41 (Int.toNat x5) Ty.val.dflt)) (Val.list (List.getD z41 (Int.toNat x5) Ty.val.dflt)) (Val.columns (List.getD z41 (Int.toNat x5) Ty.val.dflt)) (Val.rows (List.getD z41 (Int.toNat x5) Ty.val.dflt)))) ((fun(z40:List Val)=>List.set z40 (Int.toNat x5) (Val.mk (Val.kind (List.getD z40 (Int.toNat x5) Ty.val.dflt)) (IntKind.i64.wrap (x1+1)) (Val.step (List.getD z40 (Int.toNat x5) Ty.val.dflt)) (Val.text (List.getD z40 (Int.toNat x5) Ty.val.dflt)) (Val.list (List.getD z40 (Int.toNat x5) Ty.val.dflt)) (Val.columns (List.getD z40 (Int.toNat x5) Ty.val.dflt)) (Val.rows (List.getD z40 (Int.toNat x5) Ty.val.dflt)))) (List.set x0 (Int.toNat x5) (Val.mk x1 (Val.n (List.getD x0 (Int.toNat x5) Ty.val.dflt)) (Val.step (List.getD x0 (Int.toNat x5) Ty.val.dflt)) (Val.text (List.getD x0 (Int.toNat x5) Ty.val.dflt)) (Val.list (List.getD x0 (Int.toNat x5) Ty.val.dflt)) (Val.columns (List.getD x0 (Int.toNat x5) Ty.val.dflt)) (Val.rows (List.getD x0 (Int.toNat x5) Ty.val.dflt)))))))) (Int.toNat x5) Ty.val.dflt)) then
   if(0:Int)≤x5∧x5<(List.length ((fun(z44:List Val)=>List.set z44 (Int.toNat x5) (Val.mk (Val.kind (List.getD z44 (Int.toNat x5) Ty.val.dflt)) (Val.n (List.getD z44 (Int.toNat x5) Ty.val.dflt)) (Val.step (List.getD z44 (Int.toNat x5) Ty.val.dflt)) (Val.text (List.getD z44 (Int.toNat x5) Ty.val.dflt)) (Val.list (List.getD z44 (Int.toNat x5) Ty.val.dflt)) r3.2 (Val.rows (List.getD z44 (Int.toNat x5) Ty.val.dflt)))) ((fun(z43:List Val)=>List.set z43 (Int.toNat x5) (Val.mk (Val.kind (List.getD z43 (Int.toNat x5) Ty.val.dflt)) (Val.n (List.getD z43 (Int.toNat x5) Ty.val.dflt)) (Val.step (List.getD z43 (Int.toNat x5) Ty.val.dflt)) (Val.text (List.getD z43 (Int.toNat x5) Ty.val.dflt)) r2.2 (Val.columns (List.getD z43 (Int.toNat x5) Ty.val.dflt)) (Val.rows (List.getD z43 (Int.toNat x5) Ty.val.dflt)))) ((fun(z42:List Val)=>List.set z42 (Int.toNat x5) (Val.mk (Val.kind (List.getD z42 (Int.toNat x5) Ty.val.dflt)) (Val.n (List.getD z42 (Int.toNat x5) Ty.val.dflt)) (Val.step (List.getD z42 (Int.toNat x5) Ty.val.dflt)) r1 (Val.list (List.getD z42 (Int.toNat x5) Ty.val.dflt)) (Val.columns (List.getD z42 (Int.toNat x5) Ty.val.dflt)) (Val.rows (List.getD z42 (Int.toNat x5) Ty.val.dflt)))) ((fun(z41:List Val)=>List.set z41 (Int.toNat x5) (Val.mk (Val.kind (List.getD z41 (Int.toNat x5) Ty.val.dflt)) (Val.n (List.getD z41 (Int.toNat x5) Ty.val.dflt)) (IntKind.i64.wrap ((IntKind.i64.wrap (x1+1))+1)) (Val.text (List.getD z41 (Int.toNat x5) Ty.val.dflt)) (Val.list (List.getD z41 (Int.toNat x5) Ty.val.dflt)) (Val.columns (List.getD z41 (Int.toNat x5) Ty.val.dflt)) (Val.rows (List.getD z41 (Int.toNat x5) Ty.val.dflt)))) ((fun(z40:List Val)=>List.set z40 (Int.toNat x5) (Val.mk (Val.kind (List.getD z40 (Int.toNat x5) Ty.val.dflt)) (IntKind.i64.wrap (x1+1)) (Val.step (List.getD z40 (Int.toNat x5) Ty.val.dflt)) (Val.text (List.getD z40 (Int.toNat x5) Ty.val.dflt)) (Val.list (List.getD z40 (Int.toNat x5) Ty.val.dflt)) (Val.columns (List.getD z40 (Int.toNat x5) Ty.val.dflt)) (Val.rows (List.getD z40 (Int.toNat x5) Ty.val.dflt)))) (List.set x0 (Int.toNat x5) (Val.mk x1 (Val.n (List.getD x0 (Int.toNat x5) Ty.val.dflt)) (Val.step (List.getD x0 (Int.toNat x5) Ty.val.dflt)) (Val.text (List.getD x0 (Int.toNat x5) Ty.val.dflt)) (Val.list (List.getD x0 (Int.toNat x5) Ty.val.dflt)) (Val.columns (List.getD x0 (Int.toNat x5) Ty.val.dflt)) (Val.rows (List.getD x0 (Int.toNat x5) Ty.val.dflt)))))))))) then
   (xIj N (Val.rows (List.getD ((fun(z44:List Val)=>List.set z44 (Int.toNat x5) (Val.mk (Val.kind (List.getD z44 (Int.toNat x5) Ty.val.dflt)) (Val.n (List.getD z44 (Int.toNat x5) Ty.val.dflt)) (Val.step (List.getD z44 (Int.toNat x5) Ty.val.dflt)) (Val.text (List.getD z44 (Int.toNat x5) Ty.val.dflt)) (Val.list (List.getD z44 (Int.toNat x5) Ty.val.dflt)) r3.2 (Val.rows (List.getD z44 (Int.toNat x5) Ty.val.dflt)))) ((fun(z43:List Val)=>List.set z43 (Int.toNat x5) (Val.mk (Val.kind (List.getD z43 (Int.toNat x5) Ty.val.dflt)) (Val.n (List.getD z43 (Int.toNat x5) Ty.val.dflt)) (Val.step (List.getD z43 (Int.toNat x5) Ty.val.dflt)) (Val.text (List.getD z43 (Int.toNat x5) Ty.val.dflt)) r2.2 (Val.columns (List.getD z43 (Int.toNat x5) Ty.val.dflt)) (Val.rows (List.getD z43 (Int.toNat x5) Ty.val.dflt)))) ((fun(z42:List Val)=>List.set z42 (Int.toNat x5) (Val.mk (Val.kind (List.getD z42 (Int.toNat x5) Ty.val.dflt)) (Val.n (List.getD z42 (Int.toNat x5) Ty.val.dflt)) (Val.step (List.getD z42 (Int.toNat x5) Ty.val.dflt)) r1 (Val.list (List.getD z42 (Int.toNat x5) Ty.val.dflt)) (Val.columns (List.getD z42 (Int.toNat x5) Ty.val.dflt)) (Val.rows (List.getD z42 (Int.toNat x5) Ty.val.dflt)))) ((fun(z41:List Val)=>List.set z41 (Int.toNat x5) (Val.mk (Val.kind (List.getD z41 (Int.toNat x5) Ty.val.dflt)) (Val.n (List.getD z41 (Int.toNat x5) Ty.val.dflt)) (IntKind.i64.wrap ((IntKind.i64.wrap (x1+1))+1)) (Val.text (List.getD z41 (Int.toNat x5) Ty.val.dflt)) (Val.list (List.getD z41 (Int.toNat x5) Ty.val.dflt)) (Val.columns (List.getD z41 (Int.toNat x5) Ty.val.dflt)) (Val.rows (List.getD z41 (Int.toNat x5) Ty.val.dflt)))) ((fun(z40:List Val)=>List.set z40 (Int.toNat x5) (Val.mk (Val.kind (List.getD z40 (Int.toNat x5) Ty.val.dflt)) (IntKind.i64.wrap (x1+1)) (Val.step (List.getD z40 (Int.toNat x5) Ty.val.dflt)) (Val.text (List.getD z40 (Int.toNat x5) Ty.val.dflt)) (Val.list (List.getD z40 (Int.toNat x5) Ty.val.dflt)) (Val.columns (List.getD z40 (Int.toNat x5) Ty.val.dflt)) (Val.rows (List.getD z40 (Int.toNat x5) Ty.val.dflt)))) (List.set x0 (Int.toNat x5) (Val.mk x1 (Val.n (List.getD x0 (Int.toNat x5) Ty.val.dflt)) (Val.step (List.getD x0 (Int.toNat x5) Ty.val.dflt)) (Val.text (List.getD x0 (Int.toNat x5) Ty.val.dflt)) (Val.list (List.getD x0 (Int.toNat x5) Ty.val.dflt)) (Val.columns (List.getD x0 (Int.toNat x5) Ty.val.dflt)) (Val.rows (List.getD x0 (Int.toNat x5) Ty.val.dflt))))))))) (Int.toNat x5) Ty.val.dflt)) r3.1).bind fun r4 =>
   if List.length r4.2=List.length (Val.rows (List.getD ((fun(z44:List Val)=>List.set z44 (Int.toNat x5) (Val.mk (Val.kind (List.getD z44 (Int.toNat x5) Ty.val.dflt)) (Val.n (List.getD z44 (Int.toNat x5) Ty.val.dflt)) (Val.step (List.getD z44 (Int.toNat x5) Ty.val.dflt)) (Val.text (List.getD z44 (Int.toNat x5) Ty.val.dflt)) (Val.list (List.getD z44 (Int.toNat x5) Ty.val.dflt)) r3.2 (Val.rows (List.getD z44 (Int.toNat x5) Ty.val.dflt)))) ((fun(z43:List Val)=>List.set z43 (Int.toNat x5) (Val.mk (Val.kind (List.getD z43 (Int.toNat x5) Ty.val.dflt)) (Val.n (List.getD z43 (Int.toNat x5) Ty.val.dflt)) (Val.step (List.getD z43 (Int.toNat x5) Ty.val.dflt)) (Val.text (List.getD z43 (Int.toNat x5) Ty.val.dflt)) r2.2 (Val.columns (List.getD z43 (Int.toNat x5) Ty.val.dflt)) (Val.rows (List.getD z43 (Int.toNat x5) Ty.val.dflt)))) ((fun(z42:List Val)=>List.set z42 (Int.toNat x5) (Val.mk (Val.kind (List.getD z42 (Int.toNat x5) Ty.val.dflt)) (Val.n (List.getD z42 (Int.toNat x5) Ty.val.dflt)) (Val.step (List.getD z42 (Int.toNat x5) Ty.val.dflt)) r1 (Val.list (List.getD z42 (Int.toNat x5) Ty.val.dflt)) (Val.columns (List.getD z42 (Int.toNat x5) Ty.val.dflt)) (Val.rows (List.getD z42 (Int.toNat x5) Ty.val.dflt)))) ((fun(z41:List Val)=>List.set z41 (Int.toNat x5) (Val.mk (Val.kind (List.getD z41 (Int.toNat x5) Ty.val.dflt)) (Val.n (List.getD z41 (Int.toNat x5) Ty.val.dflt)) (IntKind.i64.wrap ((IntKind.i64.wrap (x1+1))+1)) (Val.text (List.getD z41 (Int.toNat x5) Ty.val.dflt)) (Val.list (List.getD z41 (Int.toNat x5) Ty.val.dflt)) (Val.columns (List.getD z41 (Int.toNat x5) Ty.val.dflt)) (Val.rows (List.getD z41 (Int.toNat x5) Ty.val.dflt)))) ((fun(z40:List Val)=>List.set z40 (Int.toNat x5) (Val.mk (Val.kind (List.getD z40 (Int.toNat x5) Ty.val.dflt)) (IntKind.i64.wrap (x1+1)) (Val.step (List.getD z40 (Int.toNat x5) Ty.val.dflt)) (Val.text (List.getD z40 (Int.toNat x5) Ty.val.dflt)) (Val.list (List.getD z40 (Int.toNat x5) Ty.val.dflt)) (Val.columns (List.getD z40 (Int.toNat x5) Ty.val.dflt)) (Val.rows (List.getD z40 (Int.toNat x5) Ty.val.dflt)))) (List.set x0 (Int.toNat x5) (Val.mk x1 (Val.n (List.getD x0 (Int.toNat x5) Ty.val.dflt)) (Val.step (List.getD x0 (Int.toNat x5) Ty.val.dflt)) (Val.text (List.getD x0 (Int.toNat x5) Ty.val.dflt)) (Val.list (List.getD x0 (Int.toNat x5) Ty.val.dflt)) (Val.columns (List.getD x0 (Int.toNat x5) Ty.val.dflt)) (Val.rows (List.getD x0 (Int.toNat x5) Ty.val.dflt))))))))) (Int.toNat x5) Ty.val.dflt)) then
   (xEG N q0 n ((fun(z45:List Val)=>List.set z45 (Int.toNat x5) (Val.mk (Val.kind (List.getD z45 (Int.toNat x5) Ty.val.dflt)) (Val.n (List.getD z45 (Int.toNat x5) Ty.val.dflt)) (Val.step (List.getD z45 (Int.toNat x5) Ty.val.dflt)) (Val.text (List.getD z45 (Int.toNat x5) Ty.val.dflt)) (Val.list (List.getD z45 (Int.toNat x5) Ty.val.dflt)) (Val.columns (List.getD z45 (Int.toNat x5) Ty.val.dflt)) r4.2)) ((fun(z44:List Val)=>List.set z44 (Int.toNat x5) (Val.mk (Val.kind (List.getD z44 (Int.toNat x5) Ty.val.dflt)) (Val.n (List.getD z44 (Int.toNat x5) Ty.val.dflt)) (Val.step (List.getD z44 (Int.toNat x5) Ty.val.dflt)) (Val.text (List.getD z44 (Int.toNat x5) Ty.val.dflt)) (Val.list (List.getD z44 (Int.toNat x5) Ty.val.dflt)) r3.2 (Val.rows (List.getD z44 (Int.toNat x5) Ty.val.dflt)))) ((fun(z43:List Val)=>List.set z43 (Int.toNat x5) (Val.mk (Val.kind (List.getD z43 (Int.toNat x5) Ty.val.dflt)) (Val.n (List.getD z43 (Int.toNat x5) Ty.val.dflt)) (Val.step (List.getD z43 (Int.toNat x5) Ty.val.dflt)) (Val.text (List.getD z43 (Int.toNat x5) Ty.val.dflt)) r2.2 (Val.columns (List.getD z43 (Int.toNat x5) Ty.val.dflt)) (Val.rows (List.getD z43 (Int.toNat x5) Ty.val.dflt)))) ((fun(z42:List Val)=>List.set z42 (Int.toNat x5) (Val.mk (Val.kind (List.getD z42 (Int.toNat x5) Ty.val.dflt)) (Val.n (List.getD z42 (Int.toNat x5) Ty.val.dflt)) (Val.step (List.getD z42 (Int.toNat x5) Ty.val.dflt)) r1 (Val.list (List.getD z42 (Int.toNat x5) Ty.val.dflt)) (Val.columns (List.getD z42 (Int.toNat x5) Ty.val.dflt)) (Val.rows (List.getD z42 (Int.toNat x5) Ty.val.dflt)))) ((fun(z41:List Val)=>List.set z41 (Int.toNat x5) (Val.mk (Val.kind (List.getD z41 (Int.toNat x5) Ty.val.dflt)) (Val.n (List.getD z41 (Int.toNat x5) Ty.val.dflt)) (IntKind.i64.wrap ((IntKind.i64.wrap (x1+1))+1)) (Val.text (List.getD z41 (Int.toNat x5) Ty.val.dflt)) (Val.list (List.getD z41 (Int.toNat x5) Ty.val.dflt)) (Val.columns (List.getD z41 (Int.toNat x5) Ty.val.dflt)) (Val.rows (List.getD z41 (Int.toNat x5) Ty.val.dflt)))) ((fun(z40:List Val)=>List.set z40 (Int.toNat x5) (Val.mk (Val.kind (List.getD z40 (Int.toNat x5) Ty.val.dflt)) (IntKind.i64.wrap (x1+1)) (Val.step (List.getD z40 (Int.toNat x5) Ty.val.dflt)) (Val.text (List.getD z40 (Int.toNat x5) Ty.val.dflt)) (Val.list (List.getD z40 (Int.toNat x5) Ty.val.dflt)) (Val.columns (List.getD z40 (Int.toNat x5) Ty.val.dflt)) (Val.rows (List.getD z40 (Int.toNat x5) Ty.val.dflt)))) (List.set x0 (Int.toNat x5) (Val.mk x1 (Val.n (List.getD x0 (Int.toNat x5) Ty.val.dflt)) (Val.step (List.getD x0 (Int.toNat x5) Ty.val.dflt)) (Val.text (List.getD x0 (Int.toNat x5) Ty.val.dflt)) (Val.list (List.getD x0 (Int.toNat x5) Ty.val.dflt)) (Val.columns (List.getD x0 (Int.toNat x5) Ty.val.dflt)) (Val.rows (List.getD x0 (Int.toNat x5) Ty.val.dflt)))))))))) r4.1 (IntKind.i64.wrap (x5+1)))
   else none else none else none else none else none else none else none else none else none else none) else(some (x1,x0))
def xHw(N:Nat)(q0:(List Val)→Int→Option (Int × (List Val)))(a0:List Val)(a1:Int):Option (Int × (List Val)):=(xEG N q0 N a0 a1 0)
def xFm(N:Nat):Nat→(List Val)→Int→Option (Int × (List Val))
 |0,_,_=>none
 |d+1,a0,a1=>xHw N (xFm N d) a0 a1
def xJL(N:Nat)(a0:List Val)(a1:Int):Option (Int × (List Val)):=xFm N N a0 a1
def xE4(a0:Val)(a1:Int):List Arg:= [.val (.v true [.int .i64 (Val.kind a0), .int .i64 (Val.n a0), .int .i64 (Val.step a0), .str (Val.text a0), .sl (.lnt 0) .val (Val.list a0), .sl (.lnt 1) .str (Val.columns a0), .sl (.lnt 2) .row (Val.rows a0)]), .val (.v false [.int .i64 a1])]
def xAh(r:Int × (List Val) × (List Str) × (List Rowd)):CallO:=⟨.v false [.int .i64 r.1], [], [.sl (.lnt 0) .val r.2.1, .sl (.lnt 1) .str r.2.2.1, .sl (.lnt 2) .row r.2.2.2]⟩
def xDh(N:Nat)(a0:Val)(a1:Int):Option (Int × (List Val) × (List Str) × (List Rowd)):=(xJL N (Val.list a0) a1).bind fun r1=>if List.length r1.2=List.length (Val.list a0) then(xGE N (Val.columns a0) r1.1).bind fun r2=>if List.length r2.2=List.length (Val.columns a0) then(xIj N (Val.rows a0) r2.1).bind fun r3=>if List.length r3.2=List.length (Val.rows a0) then some (r3.1,r1.2,r2.2,r3.2) else none else none else none
def xCU(a0:List Str)(a1:Int):List Arg:= [.val (.v false [.sl .ro .str a0]), .val (.v false [.int .i64 a1])]
def xBl(r:Int):CallO:=⟨.v false [.int .i64 r], [], []⟩
def xDG(N:Nat):Nat→(List Str)→Int→Int→Option (Int)
 |0,_,_,_=>none
 |n+1,x0,x1,x5=>bif(decide (x5<(List.length x0:Int))) then(if(0:Int)≤x5∧x5<(List.length x0) then(xET N x1).bind fun r1=>bif(!(((List.getD x0 (Int.toNat x5) Ty.str.dflt):Str)==r1)) then(some (-1)) else((xDG N n x0 (IntKind.i64.wrap (x1+1)) (IntKind.i64.wrap (x5+1)))) else none) else(some x1)
def xFH(N:Nat)(a0:List Str)(a1:Int):Option (Int):=(xDG N N a0 a1 0)
def xFF(a0:List Int)(a1:Int):List Arg:= [.val (.v false [.sl .ro .int a0]), .val (.v false [.int .i64 a1])]
def xCY(r:Int):CallO:=⟨.v false [.int .i64 r], [], []⟩
def xFG(N:Nat):Nat→(List Int)→Int→Int→Option (Int)
 |0,_,_,_=>none
 |n+1,x0,x1,x5=>bif(decide (x5<(List.length x0:Int))) then(if(0:Int)≤x5∧x5<(List.length x0) then bif((List.getD x0 (Int.toNat x5) Ty.int.dflt) != x1) then(some (-1)) else((xFG N n x0 (IntKind.i64.wrap (x1+1)) (IntKind.i64.wrap (x5+1)))) else none) else(some x1)
def xJo(N:Nat)(a0:List Int)(a1:Int):Option (Int):=(xFG N N a0 a1 0)
def xFk(a0:List Org)(a1:Int):List Arg:= [.val (.v false [.sl .ro .org a0]), .val (.v false [.int .i64 a1])]
def xCF(r:Int):CallO:=⟨.v false [.int .i64 r], [], []⟩
def xEi(N:Nat):Nat→(List Org)→Int→Int→Option (Int)
 |0,_,_,_=>none
 |n+1,x0,x1,x5=>bif(decide (x5<(List.length x0:Int))) then(if(0:Int)≤x5∧x5<(List.length x0) then bif(((Org.cell (List.getD x0 (Int.toNat x5) Ty.org.dflt)):Int) != x1) then(some (-1)) else(bif(((Org.row (List.getD x0 (Int.toNat x5) Ty.org.dflt)):Int) != (IntKind.i64.wrap (x1+1))) then(some (-1)) else((xEi N n x0 (IntKind.i64.wrap ((IntKind.i64.wrap (x1+1))+1)) (IntKind.i64.wrap (x5+1))))) else none) else(some x1)
def xHP(N:Nat)(a0:List Org)(a1:Int):Option (Int):=(xEi N N a0 a1 0)
def xEL(a0:List Rowd)(a1:Int):List Arg:= [.val (.v false [.sl .ro .row a0]), .val (.v false [.int .i64 a1])]
def xCm(r:Int):CallO:=⟨.v false [.int .i64 r], [], []⟩
def xEM(N:Nat):Nat→(List Rowd)→Int→Int→Option (Int)
 |0,_,_,_=>none
 |n+1,x0,x1,x5=>bif(decide (x5<(List.length x0:Int))) then(if(0:Int)≤x5∧x5<(List.length x0) then(xJo N (Rowd.cells (List.getD x0 (Int.toNat x5) Ty.row.dflt)) x1).bind fun r1=>bif(decide (r1<0)) then(some (-1)) else((xHP N (Rowd.frm (List.getD x0 (Int.toNat x5) Ty.row.dflt)) r1).bind fun r2=>bif(decide (r2<0)) then(some (-1)) else((xEM N n x0 r2 (IntKind.i64.wrap (x5+1))))) else none) else(some x1)
def xHi(N:Nat)(a0:List Rowd)(a1:Int):Option (Int):=(xEM N N a0 a1 0)
def xDY(a0:List Val)(a1:Int):List Arg:= [.val (.v false [.sl .ro .val a0]), .val (.v false [.int .i64 a1])]
def xAU(r:Int):CallO:=⟨.v false [.int .i64 r], [], []⟩
def xDZ(N:Nat)(q0:(List Val)→Int→Option (Int)):Nat→(List Val)→Int→Int→Option (Int)
 |0,_,_,_=>none
 |n+1,x0,x1,x5=>bif(decide (x5<(List.length x0:Int))) then(if(0:Int)≤x5∧x5<(List.length x0) then bif(((Val.kind (List.getD x0 (Int.toNat x5) Ty.val.dflt)):Int) != x1) then(some (-1)) else(bif(((Val.n (List.getD x0 (Int.toNat x5) Ty.val.dflt)):Int) != (IntKind.i64.wrap (x1+1))) then(some (-1)) else(bif(((Val.step (List.getD x0 (Int.toNat x5) Ty.val.dflt)):Int) != (IntKind.i64.wrap ((IntKind.i64.wrap (x1+1))+1))) then(some (-1)) else((xET N (IntKind.i64.wrap ((IntKind.i64.wrap ((IntKind.i64.wrap (x1+1))+1))+1))).bind fun r1=>bif(!(((Val.text (List.getD x0 (Int.toNat x5) Ty.val.dflt)):Str)==r1)) then(some (-1)) else((q0 (Val.list (List.getD x0 (Int.toNat x5) Ty.val.dflt)) (IntKind.i64.wrap ((IntKind.i64.wrap ((IntKind.i64.wrap ((IntKind.i64.wrap (x1+1))+1))+1))+1))).bind fun r2=>bif(decide (r2<0)) then(some (-1)) else((xFH N (Val.columns (List.getD x0 (Int.toNat x5) Ty.val.dflt)) r2).bind fun r3=>bif(decide (r3<0)) then(some (-1)) else((xHi N (Val.rows (List.getD x0 (Int.toNat x5) Ty.val.dflt)) r3).bind fun r4=>bif(decide (r4<0)) then(some (-1)) else((xDZ N q0 n x0 r4 (IntKind.i64.wrap (x5+1)))))))))) else none) else(some x1)
def xF8(N:Nat)(q0:(List Val)→Int→Option (Int))(a0:List Val)(a1:Int):Option (Int):=(xDZ N q0 N a0 a1 0)
def xEk(N:Nat):Nat→(List Val)→Int→Option (Int)
 |0,_,_=>none
 |d+1,a0,a1=>xF8 N (xEk N d) a0 a1
def xIi(N:Nat)(a0:List Val)(a1:Int):Option (Int):=xEk N N a0 a1
def xDN(a0:Val)(a1:Int):List Arg:= [.val (.v true (Va .ro a0)), .val (.v false [.int .i64 a1])]
def xAx(r:Int):CallO:=⟨.v false [.int .i64 r], [], []⟩
def xCQ(N:Nat)(a0:Val)(a1:Int):Option (Int):=(xIi N (Val.list a0) a1).bind fun r1=>bif(decide (r1<0)) then(some (-1)) else((xFH N (Val.columns a0) r1).bind fun r2=>bif(decide (r2<0)) then(some (-1)) else((xHi N (Val.rows a0) r2).bind fun r3=>bif(decide (r3<0)) then(some (-1)) else(some r3)))
def xAs(a0:Val)(a1:Val)(a2:Val):List Arg:= [.val (.v true (Va .ro a0)), .val (.v true (Va .ro a1)), .val (.v true (Va .ro a2))]
def xAt(r:Bool):CallO:=⟨.v false [.bool r], [], []⟩
def xDX(N:Nat)(a0:Val)(a1:Val)(a2:Val):Option (Bool):=(xI7 N a0 1048576).bind fun r1=>bif(decide (r1<0)) then(some true) else((xI7 N a1 r1).bind fun r2=>bif(decide (r2<0)) then(some true) else((xI7 N a2 r2).bind fun r3=>bif(decide (r3<0)) then(some true) else((xCt N a0).bind fun r4=>(xCt N a1).bind fun r5=>(xCt N a2).bind fun r6=>(xHb N r4 r5 r6).bind fun r7=>(xCt N a0).bind fun r8=>(xCt N a1).bind fun r9=>(xCt N a2).bind fun r10=>(xF1 N r8 r9 r10).bind fun r11=>bif r11.2 then(if List.isEmpty (Val.list r11.1)=true then if List.isEmpty (Val.columns r11.1)=true then if List.isEmpty (Val.rows r11.1)=true then(xC5 N (Val.mk (Val.kind r11.1) (Val.n r11.1) (Val.step r11.1) (Val.text r11.1) [] [] []) r7).bind fun r12=>bif(!r12) then(some false) else((xCt N a0).bind fun r13=>(xC5 N r8 r13).bind fun r14=>bif(!r14) then(some false) else((xCt N a1).bind fun r15=>(xC5 N r9 r15).bind fun r16=>bif(!r16) then(some false) else((xCt N a2).bind fun r17=>(xC5 N r10 r17).bind fun r18=>bif(!r18) then(some false) else((xDh N r8 1).bind fun r19=>if List.length r19.2.1=List.length (Val.list r8) then if List.length r19.2.2.1=List.length (Val.columns r8) then if List.length r19.2.2.2=List.length (Val.rows r8) then(xDh N r9 r19.1).bind fun r20=>if List.length r20.2.1=List.length (Val.list r9) then if List.length r20.2.2.1=List.length (Val.columns r9) then if List.length r20.2.2.2=List.length (Val.rows r9) then(xDh N r10 r20.1).bind fun r21=>if List.length r21.2.1=List.length (Val.list r10) then if List.length r21.2.2.1=List.length (Val.columns r10) then
     if List.length r21.2.2.2=List.length (Val.rows r10) then bif(decide (r21.1<0)) then(some false) else((xC5 N (Val.mk (Val.kind r11.1) (Val.n r11.1) (Val.step r11.1) (Val.text r11.1) [] [] []) r7).bind fun r22=>bif(!r22) then(some false) else((xGF N (Val.mk (Val.kind r11.1) (Val.n r11.1) (Val.step r11.1) (Val.text r11.1) [] [] []) 1).bind fun r23=>(xCQ N (Val.mk (Val.kind r11.1) (Val.n r11.1) (Val.step r11.1) (Val.text r11.1) [] [] []) 1).bind fun r24=>bif(decide (r24<0)) then(some false) else(bif(r24 != r23) then(some false) else((xCt N a0).bind fun r25=>(xCt N a1).bind fun r26=>(xCt N a2).bind fun r27=>(xF1 N r25 r26 r27).bind fun r28=>bif r28.2 then(if List.isEmpty (Val.list r28.1)=true then if List.isEmpty (Val.columns r28.1)=true then if List.isEmpty (Val.rows r28.1)=true then(xC5 N (Val.mk (Val.kind r28.1) (Val.n r28.1) (Val.step r28.1) (Val.text r28.1) [] [] []) r7).bind fun r29=>bif(!r29) then(some false) else((xCQ N (Val.mk (Val.kind r11.1) (Val.n r11.1) (Val.step r11.1) (Val.text r11.1) [] [] []) 1).bind fun r30=>bif(decide (r30<0)) then(some false) else(bif(r30 != r23) then(some false) else(some true))) else none else none else none) else((xC5 N r28.1 r7).bind fun r29=>bif(!r29) then(some false) else((xCQ N (Val.mk (Val.kind r11.1) (Val.n r11.1) (Val.step r11.1) (Val.text r11.1) [] [] []) 1).bind fun r30=>bif(decide (r30<0)) then(some false) else(bif(r30 != r23) then(some false) else(some true)))))))) else none else none else none else none else none else none else none else none else none)))) else none else none else none) else((xC5 N r11.1 r7).bind fun r12=>bif(!r12) then(some false) else((xCt N a0).bind fun r13 =>
     (xC5 N r8 r13).bind fun r14=>bif(!r14) then(some false) else((xCt N a1).bind fun r15=>(xC5 N r9 r15).bind fun r16=>bif(!r16) then(some false) else((xCt N a2).bind fun r17=>(xC5 N r10 r17).bind fun r18=>bif(!r18) then(some false) else((xDh N r8 1).bind fun r19=>if List.length r19.2.1=List.length (Val.list r8) then if List.length r19.2.2.1=List.length (Val.columns r8) then if List.length r19.2.2.2=List.length (Val.rows r8) then(xDh N r9 r19.1).bind fun r20=>if List.length r20.2.1=List.length (Val.list r9) then if List.length r20.2.2.1=List.length (Val.columns r9) then if List.length r20.2.2.2=List.length (Val.rows r9) then(xDh N r10 r20.1).bind fun r21=>if List.length r21.2.1=List.length (Val.list r10) then if List.length r21.2.2.1=List.length (Val.columns r10) then if List.length r21.2.2.2=List.length (Val.rows r10) then bif(decide (r21.1<0)) then(some false) else((xC5 N r11.1 r7).bind fun r22=>bif(!r22) then(some false) else((xDh N r11.1 1).bind fun r23=>if List.length r23.2.1=List.length (Val.list r11.1) then if List.length r23.2.2.1=List.length (Val.columns r11.1) then if List.length r23.2.2.2=List.length (Val.rows r11.1) then(xCQ N (Val.mk (Val.kind r11.1) (Val.n r11.1) (Val.step r11.1) (Val.text r11.1) r23.2.1 r23.2.2.1 r23.2.2.2) 1).bind fun r24=>bif(decide (r24<0)) then(some false) else(bif(r24 != r23.1) then(some false) else((xCt N a0).bind fun r25=>(xCt N a1).bind fun r26=>(xCt N a2).bind fun r27=>(xF1 N r25 r26 r27).bind fun r28=>bif r28.2 then(if List.isEmpty (Val.list r28.1)=true then if List.isEmpty (Val.columns r28.1)=true then if List.isEmpty (Val.rows r28.1)=true then(xC5 N (Val.mk (Val.kind r28.1) (Val.n r28.1) (Val.step r28.1) (Val.text r28.1) [] [] []) r7).bind fun r29 =>
            bif(!r29) then(some false) else((xCQ N (Val.mk (Val.kind r11.1) (Val.n r11.1) (Val.step r11.1) (Val.text r11.1) r23.2.1 r23.2.2.1 r23.2.2.2) 1).bind fun r30=>bif(decide (r30<0)) then(some false) else(bif(r30 != r23.1) then(some false) else(some true))) else none else none else none) else((xC5 N r28.1 r7).bind fun r29=>bif(!r29) then(some false) else((xCQ N (Val.mk (Val.kind r11.1) (Val.n r11.1) (Val.step r11.1) (Val.text r11.1) r23.2.1 r23.2.2.1 r23.2.2.2) 1).bind fun r30=>bif(decide (r30<0)) then(some false) else(bif(r30 != r23.1) then(some false) else(some true)))))) else none else none else none)) else none else none else none else none else none else none else none else none else none))))))))
end Go.Ab
end
section
namespace Go.Ab
open Go.Proofs Go.Shelf
variable {P:Program} {ρ:Ren}
theorem xPG(L:Lays.n125 P ρ):∀args w,(callFunc (ρ.f 125) args).run P w= .ok (.enter (ρ.f 125) args) w:=enters_of L.f125 (by kernel_rfl) rfl
end Go.Ab
end
section
namespace Go.Ab
open Go.Lib Go.Extern Go.Proofs Go.Shelf
variable [Inhabited Lb]
def OrgRow(w:World)(br cap:Nat)(xs:List Org):Prop :=
 xs.length≤cap∧∃cs ty lo hi,w.heap[br]? =some (.cells cs ty (lo,hi))∧cap*2=cs.size∧(∀o,lo≤o→o<hi→cap*2≤o)∧
  ∀m (hm:m<xs.length) k (hk:k<2),cs[m*2+k]? =some ((zAu xs[m])[k]'hk)
theorem OrgRow.rd{E:Env}{br cap:Nat}{xs:List Org}(h:OrgRow E.w br cap xs){pl:Pl}{c:Nat}(ho:E.ow br=some (.arr pl c []))(hw:E.hw br=xs.length*2)(n:Nat)(hh:E.hdr n= .slice (some ⟨br,0,none⟩) xs.length cap) :
 RdP E.w (okF E pl c (.lnt n)) (qF E pl c (.lnt n)) (.slice (some ⟨br,0,none⟩) xs.length cap) (.sl 2 (xs.map Ty.org.toD)):=by
 obtain⟨hcap,cs,ty,lo,hi,t4,t5,t6,hc⟩:=h
 refine .sl br 0 xs.length cap 2 _ (fun m k=>if h:m<xs.length∧k<2 then(zAu xs[m])[k]'h.2 else .bool false) (by simp) hcap (fun r hr=> ?_) ⟨⟨ho,hw,hcap,cs,ty,lo,hi,t4,t5,t6⟩,fun _=>hh.symm⟩ (fun m k hm hk=> ?_) (fun m k hm hk=> ?_)
 ·obtain⟨y,_,rfl⟩:=List.mem_map.1 hr
  exact Ty.toD_length .org y
 ·rw [dif_pos ⟨hm,hk⟩]
  refine⟨?_,?_,ho⟩
  ·simp only [World.cell?,t4]
   rw [Nat.zero_add]
   exact hc m hm k hk
  ·rw [hw];omega
 ·have hm' :m<xs.length:=by simpa using hm
  have hr:(xs.map Ty.org.toD)[m]=Ty.org.toD xs[m]:=by rw [List.getElem_map]
  have hk' :k<2:=by rw [hr] at hk;exact hk
  rw [dif_pos ⟨hm',hk'⟩]
  simp only [hr]
  match k,hk' with
  |0,_=>exact .int .i64 _
  |1,_=>exact .int .i64 _
theorem OrgRow.of{E:Env}{pl:Pl}{c n br cap:Nat}{xs:List Org}(hx:xs≠ [])(h:RdP E.w (okF E pl c (.lnt n)) (qF E pl c (.lnt n)) (.slice (some ⟨br,0,none⟩) xs.length cap) (.sl 2 (xs.map Ty.org.toD))):OrgRow E.w br cap xs:=by
 obtain⟨b,off,cap',e,hcap,hrl,hq,u,hcl,hk⟩:=RdP.cells h (by simpa using hx)
 rw [List.length_map] at e
 obtain⟨rfl,rfl,rfl⟩:br=b∧0=off∧cap=cap' :=by injection e with e1 e2 e3;injection e1 with e1;injection e1 with e1 e4;exact⟨e1,e4,e3⟩
 obtain⟨t1,t2,t3,cs,ty,lo,hi',t4,t5,t6⟩:=hq.1
 rw [List.length_map] at hcap
 refine⟨hcap,cs,ty,lo,hi',t4,t5,t6,fun m hm k hk2=> ?_⟩
 have g1:=(hcl m k (by simpa using hm) hk2).1
 have hr:((xs.map Ty.org.toD)[m]'(by simpa using hm))=Ty.org.toD xs[m]:=by rw [List.getElem_map]
 have g2:=hk m k (by simpa using hm) (by rw [hr];exact hk2)
 rw [Nat.zero_add] at g1
 simp only [World.cell?,t4] at g1
 simp only [hr] at g2
 match k,hk2,g1,g2 with
 |0,_,g1,g2=>generalize u m 0=x at g1 g2;simp only [Ty.toD,List.getElem_cons_zero] at g2;cases g2;exact g1
 |1,_,g1,g2=>generalize u m 1=x at g1 g2;simp only [Ty.toD,List.getElem_cons_succ,List.getElem_cons_zero] at g2;cases g2;exact g1
structure Sorted (w:World) (bo br cap:Nat) (xs ys:List Org) (w' :World):Prop where
 os:w'.os=w.os
 tape:w'.tape=w.tape
 output:w'.output=w.output
 size:w.heap.size≤w'.heap.size
 old:∀b,b<w.heap.size→b≠bo→b≠br→w'.heap[b]? =w.heap[b]?
 box:∃ty,w'.heap[bo]? =some (.cells #[.slice (some ⟨br,0,none⟩) xs.length cap] ty (0,0))
 row:OrgRow w' br cap ys
theorem xOB{P:Program}{ρ:Ren}(L:LaysGg.n6 P ρ)(t e:TypeId)(i ie:TypeInfo)(hi:P.info? t=some i)(hd:i.desc= .slice e)(hpk:P.packed t=false)(hie:P.info? e=some ie)(ke:Nat)
 (hke:∀w,(Extern.Rtype.kind e).run P w= .ok ke w) (hnp:ie.hasPointers=false) (hby:ie.bytes=16) (f lf:Nat) (hf:P.funcs.findIdx? (·.name== "internal/reflectlite" ++ ".Swapper$9")=some f)
 {xs ys:List Org} (hl:ys.length=xs.length) (h2:2≤xs.length) (hlen:xs.length<4611686018427387904)
 (hpdq:AbsCalls P (ρ.f 14) [.val (.v true [.clo lf [gi 4], .swp f 0 (typeHandle P e) (gi 4)]), .val (.v false [.int .i64 0]), .val (.v false [.int .i64 xs.length]), .val (.v false [.int .i64 (Lib.bitLen xs.length)]), .gbox [.sl (.lnt 0) .org xs]] ⟨.tup [], [[.sl (.lnt 0) .org ys]], []⟩)
 {w:World} {bo br cap:Nat} {ty:TypeId} (hbo:w.heap[bo]? =some (.cells #[.slice (some ⟨br,0,none⟩) xs.length cap] ty (0,0))) (hbr:OrgRow w br cap xs) (hne:bo≠br)
 (hbase:∀x ∈ zH7,x.1<w.heap.size∧x.1≠bo∧x.1≠br∧w.heap[x.1]? =some x.2) :
 Calls P (ρ.f 6) #[.iface t (.slice (some ⟨br,0,none⟩) xs.length cap), .func (.func lf) #[] #[.pointer (some ⟨bo,0,none⟩)]] w fun en w' =>en= .returned (.tuple #[])∧Sorted w bo br cap xs ys w' :=by
 have hk9:swapperK xs.length ie ke=9:=by
  unfold swapperK
  have e0:(xs.length==0)=false:=beq_eq_false_iff_ne.2 (by omega)
  have e1:(xs.length==1)=false:=beq_eq_false_iff_ne.2 (by omega)
  simp [e0,e1,hnp,hby]
 have hbol:bo<w.heap.size:=(Array.getElem?_eq_some_iff.1 hbo).1
 have hbrl:br<w.heap.size:=by
  obtain⟨_,cs,ty,lo,hi,h,_⟩:=hbr
  exact(Array.getElem?_eq_some_iff.1 h).1
 refine Any.sort_Slice_of_pdq L t e i ie hi hd hpk hie ke hke (some ⟨br,0,none⟩) xs.length cap hlen f (by rw [hk9];exact hf) (.func lf) #[] #[.pointer (some ⟨bo,0,none⟩)] w (Sorted w bo br cap xs ys) ?_
 generalize hW:sliceWorld P ρ t (some ⟨br,0,none⟩) xs.length cap w=W
 have hWs:W.heap.size=w.heap.size+2:=by rw [←hW];unfold sliceWorld;rw [zBs,zBs]
 have hWo:∀b,b<w.heap.size→W.heap[b]? =w.heap[b]? :=by
  intro b hb
  rw [←hW]
  unfold sliceWorld
  have al:∀(w:World) (o:Obj) (b:Nat),b<w.heap.size→(w.alloc o).heap[b]? =w.heap[b]? :=fun w o b hb=>by
   show(w.heap.push o)[b]? =_
   rw [Array.getElem?_push,if_neg (by omega)]
  rw [al _ _ _ (by rw [zBs];omega),al _ _ _ hb]
 have hWos:W.os=w.os∧W.tape=w.tape∧W.output=w.output:=by rw [←hW];exact⟨rfl,rfl,rfl⟩
 let E:Env:= { w:=W,hw:=fun b=>if b=br then xs.length*2 else if b=bo then 0 else match w.heap[b]? with |some o=>zFu o |none=>0,
               ow:=fun b=>if b=bo then some (.box (gi 4)) else if b=br then some (.arr (.k (2*gi 4+1)) 0 []) else none,bx:=fun _=>bo,hdr:=fun _=> .slice (some ⟨br,0,none⟩) xs.length cap }
 have o1:E.ow bo=some (.box (gi 4)):=if_pos rfl
 have o2:E.ow br=some (.arr (.k (2*gi 4+1)) 0 []):=by show(if br=bo then _ else _)=_;rw [if_neg (Ne.symm hne),if_pos rfl]
 have o3:∀b,b≠bo→b≠br→E.ow b=none:=fun b h1 h2=>by show(if b=bo then _ else _)=_;rw [if_neg h1,if_neg h2]
 have hw2:E.hw br=xs.length*2:=if_pos rfl
 have hE:EnvOk E:=by
  refine⟨fun b hb=> ?_,fun b b' l h1 h2=> ?_,fun b s h=> ?_⟩
  ·have hb:W.heap.size≤b:=hb
   refine⟨o3 b (by omega) (by omega),?_⟩
   show(if b=br then _ else _)=_
   rw [if_neg (by omega),if_neg (by omega),Array.getElem?_eq_none (by omega)]
  ·by_cases c1:b=bo
   ·subst c1
    rw [o1] at h1;cases h1
    by_cases c2:b' =b
    ·exact c2.symm
    ·by_cases c3:b' =br
     ·subst c3;rw [o2] at h2;cases h2
     ·rw [o3 b' c2 c3] at h2;cases h2
   ·by_cases c2:b=br
    ·subst c2
     rw [o2] at h1;cases h1
     by_cases c3:b' =bo
     ·subst c3;rw [o1] at h2;cases h2
     ·by_cases c4:b' =b
      ·exact c4.symm
      ·rw [o3 b' c3 c4] at h2;cases h2
    ·rw [o3 b c1 c2] at h1;cases h1
  ·by_cases c1:b=bo
   ·subst c1
    show(if b=br then _ else _)=_
    rw [if_neg hne,if_pos rfl]
   ·by_cases c2:b=br
    ·subst c2;rw [o2] at h;cases h
    ·rw [o3 b c1 c2] at h;cases h
 have hB:Base E:=by
  intro x hx
  obtain⟨b1,b2,b3,b4⟩:=hbase x hx
  refine⟨by show _<W.heap.size;omega,o3 _ b2 b3,(hWo _ b1).trans b4,?_⟩
  show(if x.1=br then _ else _)=_
  rw [if_neg b3,if_neg b2,b4]
 have hrow:OrgRow E.w br cap xs:=by
  obtain⟨h1,cs,ty',lo,hi',h3,h4⟩:=hbr
  exact⟨h1,cs,ty',lo,hi',(hWo br hbrl).trans h3,h4⟩
 have hsb:sliceBound P e ie ke (some ⟨br,0,none⟩) xs.length cap= #[.slice (some ⟨br,0,none⟩) xs.length cap,typeHandle P e]:=by
  unfold sliceBound
  rw [hk9]
  rfl
 rw [hsb]
 have hA:ArgsAt E 0 [.val (.v true [.clo lf [gi 4], .swp f 0 (typeHandle P e) (gi 4)]), .val (.v false [.int .i64 0]), .val (.v false [.int .i64 xs.length]), .val (.v false [.int .i64 (Lib.bitLen xs.length)]), .gbox [.sl (.lnt 0) .org xs]]
  (#[.agg #[.func (.func lf) #[] #[.pointer (some ⟨bo,0,none⟩)], .func (.func f) #[] #[.slice (some ⟨br,0,none⟩) xs.length cap,typeHandle P e]], .int .i64 0, .int .i64 xs.length, .int .i64 (Lib.bitLen xs.length)]:Array Value).toList:=by
  refine⟨⟨_,rfl,⟨rfl,fun _ _=>trivial⟩,⟨⟨rfl,rfl⟩,fun ad l c he h=>rfl⟩,trivial⟩,⟨rfl,trivial⟩,⟨rfl,trivial⟩,⟨rfl,trivial⟩,⟨o1,_,ty,(hWo bo hbol).trans hbo,?_,trivial⟩,trivial⟩
  exact OrgRow.rd hrow o2 hw2 0 rfl
 have hdo:=hpdq E _ hE hB hA
 have e14:∀args w,(callFunc (ρ.f 14) args).run P w= .ok (.enter (ρ.f 14) args) w:=enters_of L.f14 (by kernel_rfl) rfl
 rcases hdo with ⟨v,w',h1,_⟩ |⟨_,h1⟩
 ·rw [e14] at h1;cases h1
 refine h1.mono fun en w' hen=> ?_
 cases en with
 |returned v =>
  obtain⟨E',rfl,hx⟩:=hen
  have hv:v= .tuple #[]:=by
   obtain⟨vs,rfl,hvs⟩:=(hx.res.vr rfl:VR E' zAI (.h 0) (.tup []) v)
   cases vs with
   |mk l=>cases l with
    |nil=>rfl
    |cons x l=>exact hvs.elim
  subst hv
  obtain⟨⟨b1,vals,ty',b2,b3⟩,_⟩:=(hx.outs:zBr E' (gi 4) bo [.sl (.lnt 0) .org ys]∧True)
  have hhdr:E'.hdr 0= .slice (some ⟨br,0,none⟩) xs.length cap:=by rw [hx.hdr]
  cases vals with
  |mk l =>
   match l,b3 with
   | [hv],b3 =>
     have b4:RdP E'.w (okF E' (.k (2*gi 4+1)) 0 (.lnt 0)) (qF E' (.k (2*gi 4+1)) 0 (.lnt 0)) hv (.sl 2 (ys.map Ty.org.toD)):=b3.1
     have b5:hv=E'.hdr 0:=(RdP.top b4).2 rfl
     rw [hhdr] at b5
     subst b5
     refine⟨rfl,hx.os.trans hWos.1,hx.tape.trans hWos.2.1,hx.output.trans hWos.2.2,by have:=hx.size;show _≤E'.w.heap.size;have h3:W.heap.size≤E'.w.heap.size:=this;omega,fun b hb hb1 hb2=> ?_,⟨ty',b2⟩,?_⟩
     ·exact((hx.old b (by show b<W.heap.size;omega) (o3 b hb1 hb2)).1).trans (hWo b hb)
     ·have:ys≠ []:=by intro e;rw [e] at hl;simp at hl;omega
      rw [←hl] at b4
      exact OrgRow.of this b4
   | [],b3=>exact b3.elim
   |_::_::_,b3=>exact b3.2.elim
 |_=>exact hen.elim
end Go.Ab
end
section
namespace Go.Ab
open Go.Proofs Go.RowKit
structure OrgT (P:Program) (te ti tm tb ts:TypeId):Prop where
 key:P.underlying te=some (.struct #[{ name:= "Cell",type:=ti,offset:=0,embedded:=false,tag:= "",pkgPath:= "",byteOffset:=0 },{ name:= "Row",type:=ti,offset:=1,embedded:=false,tag:= "",pkgPath:= "",byteOffset:=8 }])
 held:P.stoodInHeld te=false
 int:P.underlying ti=some (.int .i64)
 map:P.underlying tm=some (.map te tb)
 zero:∀w,(zeroValue tb).run P w= .ok (.bool false) w
 slice:P.underlying ts=some (.slice te)
def orgV(o:Org):Value:= .agg #[.int .i64 o.cell, .int .i64 o.row]
section
variable {P:Program} {te ti tm tb ts:TypeId} (T:OrgT P te ti tm tb ts) {w:World}
include T
theorem xTO:P.plainKey ti=true:=by simp [Program.plainKey,T.int]
theorem vFO(o:Org):(part ti #[.int .i64 o.cell, .int .i64 o.row] 0).run P w= .ok (.int .i64 o.cell) w:=run_part_plain w (xTO T) rfl
theorem vFP(o:Org):(part ti #[.int .i64 o.cell, .int .i64 o.row] 1).run P w= .ok (.int .i64 o.row) w:=run_part_plain w (xTO T) rfl
theorem xNK(em:Bool)(n:Nat)(k:IntKind)(x:Int):(Instr.checkKey em (n+1) ti (.int k x)).run P w= .ok () w:=by
 unfold Instr.checkKey
 simp [run_underlying T.int]
theorem xLo(em:Bool)(n:Nat)(o:Org):(Instr.checkKey em (n+2) te (orgV o)).run P w= .ok () w:=by
 unfold Instr.checkKey orgV
 simp [run_underlying T.key,vFO T,vFP T,xNK T,Result.andThen]
theorem xMR(a b:Org):(Op.equal te (orgV a) (orgV b)).run P w= .ok (a==b) w:=by
 have hf:P.fieldsOf te= #[{ name:= "Cell",type:=ti,offset:=0,embedded:=false,tag:= "",pkgPath:= "",byteOffset:=0 },{ name:= "Row",type:=ti,offset:=1,embedded:=false,tag:= "",pkgPath:= "",byteOffset:=8 }]:=by unfold Program.fieldsOf;rw [T.key]
 show(Op.equalIn 10000 te (.agg _) (.agg _)).run P w=_
 rw [run_equalIn_agg w 9999 te _ _ (by rw [hf];exact T.key) T.held,hf]
 have e1:=run_equalIn_int (P:=P) w 9998 ti .i64 .i64 a.cell b.cell T.int
 have e2:=run_equalIn_int (P:=P) w 9998 ti .i64 .i64 a.row b.row T.int
 have h:(a==b)=((a.cell==b.cell)&&(a.row==b.row)):=by
  cases a;cases b
  rw [Bool.eq_iff_iff]
  simp
 rw [h]
 simp [Op.eqFields,vFO T,vFP T,e1,e2,Result.andThen]
 by_cases h1:a.cell=b.cell <;>by_cases h2:a.row=b.row <;>simp [h1,h2]
end
def SetMap(w:World)(b:Nat)(ks:List Org):Prop :=
 ∃es clock,w.heap[b]? =some (.map es clock)∧es.toList.map (·.key)=ks.map orgV∧∀e ∈ es.toList,e.val= .bool true
theorem SetMap.kept{w w' :World}{b:Nat}{ks:List Org}(h:SetMap w b ks)(e:w'.heap[b]? =w.heap[b]?):SetMap w' b ks:=by
 obtain⟨es,c,h1,h2⟩:=h
 exact⟨es,c,e.trans h1,h2⟩
section
variable {P:Program} {te ti tm tb ts:TypeId} (T:OrgT P te ti tm tb ts) {w:World}
include T
theorem xOR(o:Org):∀(es:List MapEntry) (ks:List Org) (i:Nat),es.map (·.key)=ks.map orgV→(∀e ∈ es,e.val= .bool true)→
 ∃r,(Instr.findAsking te (orgV o) es i).run P w= .ok r w∧(ks.contains o=true→∃j,r=some (j, .bool true))∧(ks.contains o=false→r=none):=by
 intro es
 induction es with
 |nil =>
  intro ks i h _
  have:ks= []:=by simpa using h.symm
  subst this
  exact⟨none,by simp [Instr.findAsking],by simp,fun _=>rfl⟩
 |cons e es ih =>
  intro ks i h hv
  cases ks with
  |nil=>simp at h
  |cons k ks =>
   simp only [List.map_cons,List.cons.injEq] at h
   obtain⟨h1,h2⟩:=h
   obtain⟨r,hr,p1,p2⟩:=ih ks (i+1) h2 (fun x hx=>hv x (List.mem_cons_of_mem _ hx))
   by_cases hk:o=k
   ·subst hk
    refine⟨some (i, .bool true),?_,fun _=>⟨i,rfl⟩,by simp⟩
    unfold Instr.findAsking
    simp [h1,xMR T,Result.andThen,hv e List.mem_cons_self]
   ·have hb:(o==k)=false:=by simpa using hk
    refine⟨r,?_,fun hc=>p1 ?_,fun hc=>p2 ?_⟩
    ·unfold Instr.findAsking
     simp [h1,xMR T,Result.andThen,hb,hr]
    ·rw [List.contains_cons,hb,Bool.false_or] at hc;exact hc
    ·rw [List.contains_cons,hb,Bool.false_or] at hc;exact hc
theorem xN2(o:Org)(es:List MapEntry)(ks:List Org)(h:es.map (·.key)=ks.map orgV)(hv:∀e ∈ es,e.val= .bool true) :
 ∃r,(Instr.findKey te (orgV o) es).run P w= .ok r w∧(ks.contains o=true→∃j,r=some (j, .bool true))∧(ks.contains o=false→r=none):=by
 cases es with
 |nil =>
  have:ks= []:=by simpa using h.symm
  subst this
  exact⟨none,by simp [Instr.findKey,run_underlying T.key,Instr.findNow,Result.andThen],by simp,fun _=>rfl⟩
 |cons e es =>
  cases ks with
  |nil=>simp at h
  |cons k ks =>
   obtain⟨r,hr,p⟩:=xOR T (w:=w) o (e::es) (k::ks) 0 h hv
   refine⟨r,?_,p⟩
   have:Instr.findNow (.struct #[{ name:= "Cell",type:=ti,offset:=0,embedded:=false,tag:= "",pkgPath:= "",byteOffset:=0 },{ name:= "Row",type:=ti,offset:=1,embedded:=false,tag:= "",pkgPath:= "",byteOffset:=8 }]) (orgV o) (e::es) 0=none:=by
    simp [Instr.findNow,Instr.sameNow]
   simp [Instr.findKey,run_underlying T.key,this,Result.andThen,hr]
theorem xPf{b:Nat}{ks:List Org}(h:SetMap w b ks)(o:Org):(Instr.lookup tm (.map (some b)) (orgV o) false).run P w= .ok (.bool (ks.contains o)) w:=by
 obtain⟨es,c,h1,h2,h3⟩:=h
 obtain⟨r,hr,p1,p2⟩:=xN2 T (w:=w) o es.toList ks h2 h3
 unfold Instr.lookup
 have hg:(getObj b).run P w= .ok (.map es c) w:=by simp [getObj,Sem.run,h1]
 have hck:(Instr.checkKey es.isEmpty 10000 te (orgV o)).run P w= .ok () w:=xLo T es.isEmpty 9998 o
 cases hc:ks.contains o with
 |true =>
  obtain⟨j,rfl⟩:=p1 hc
  simp [run_underlying T.map,hg,hck,hr,Result.andThen]
 |false =>
  obtain rfl:=p2 hc
  simp [run_underlying T.map,hg,hck,hr,T.zero,Result.andThen]
theorem xPg{b:Nat}{ks:List Org}(h:SetMap w b ks)(o:Org)(hc:ks.contains o=false) :
 ∃w',(Instr.mapUpdate tm (.map (some b)) (orgV o) (.bool true)).run P w= .ok () w' ∧SetMap w' b (ks++ [o])∧w.grownBy w' (some b)∧w'.heap.size=w.heap.size:=by
 obtain⟨es,c,h1,h2,h3⟩:=h
 obtain⟨r,hr,p1,p2⟩:=xN2 T (w:=w) o es.toList ks h2 h3
 obtain rfl:=p2 hc
 have hb:b<w.heap.size:=(Array.getElem?_eq_some_iff.1 h1).1
 have hg:(getObj b).run P w= .ok (.map es c) w:=by simp [getObj,Sem.run,h1]
 have hck:(Instr.checkKey false 10000 te (orgV o)).run P w= .ok () w:=xLo T false 9998 o
 have hs:∀ob,(setObj b ob).run P w= .ok () { w with heap:=w.heap.setIfInBounds b ob }:=by
  intro ob
  simp [setObj,Sem.run,h1]
 refine⟨{ w with heap:=w.heap.setIfInBounds b (.map (es.push { key:=orgV o,val:= .bool true,born:=c }) (c+1)) },?_,?_,⟨rfl,rfl,rfl,by simp,fun k hk hne=> ?_⟩,by simp⟩
 ·unfold Instr.mapUpdate
  simp [run_underlying T.map,hg,hck,hr,hs,Result.andThen]
 ·refine⟨_,_,by simp [hb];exact⟨rfl,rfl⟩,?_,?_⟩
  ·simp [h2]
  ·intro e he
   simp at he
   rcases he with he |rfl
   ·exact h3 e (by simpa using he)
   ·rfl
 ·have:b≠k:=fun e=>hne (by rw [e])
  simp [Array.getElem?_setIfInBounds,this]
end
section
variable {P:Program} {te ti tm tb ts:TypeId} (w:World) {ops:Array Oper} {rest:List Oper} {o:Oper} {a:Act} {Q:Exit→Act→World→Prop}
theorem xKX(T:OrgT P te ti tm tb ts)(hg:o.guard=none)(m x:Operand)(hop:o.op=Op.lookup tm m x false)(b:Nat)(ks:List Org)(hm:a.eval m= .map (some b))(hs:SetMap w b ks)(c:Org)(hx:a.eval x=orgV c)(bv:Bool)(hbv:ks.contains c=bv)
 (hK:wpList P ops Q rest (a.put o.dst (.bool bv)) w):wpList P ops Q (o::rest) a w:=by
 refine wpList_plain hg fun K' hK' => ?_
 have hrun:=xPf T hs c
 rw [hbv] at hrun
 unfold Oper.wp
 simp [execOp,hop,hm,hx,hrun,Result.andThen]
 exact hK' _ _ hK
theorem xNn(T:OrgT P te ti tm tb ts)(hg:o.guard=none)(m x v:Operand)(hop:o.op=Op.mapUpdate tm m x v)(b:Nat)(ks:List Org)(hm:a.eval m= .map (some b))(hs:SetMap w b ks)(c:Org)(hx:a.eval x=orgV c)(hv:a.eval v= .bool true)
 (hc:ks.contains c=false) (hK:∀w',SetMap w' b (ks++ [c])→w.grownBy w' (some b)→w'.heap.size=w.heap.size→wpList P ops Q rest (a.put o.dst undef) w'):wpList P ops Q (o::rest) a w:=by
 refine wpList_plain hg fun K' hK' => ?_
 obtain⟨w',hrun,r1,r2,r3⟩:=xPg T hs c hc
 unfold Oper.wp
 simp [execOp,hop,hm,hx,hv,hrun,Result.andThen]
 exact hK' _ _ (hK w' r1 r2 r3)
end
def orgs(os:List Org):List Value:=os.flatMap zAu
theorem xNP:∀os:List Org,(orgs os).length=os.length*2
 | []=>rfl
 |o::os=>by
  show(zAu o++orgs os).length=_
  rw [jA,xNP os]
  simp [zAu];omega
theorem xWF(a b:List Org):orgs (a++b)=orgs a++orgs b:=List.flatMap_append
theorem xOx:∀(os:List Org) (m:Nat) (hm:m<os.length) (k:Nat) (hk:k<2),(orgs os)[m*2+k]? =some ((zAu os[m])[k]'hk)
 | [],m,hm,_,_=>absurd hm (by simp)
 |o::os,0,hm,k,hk=>by
  show(zAu o++orgs os)[0*2+k]? =_
  rw [Nat.zero_mul,Nat.zero_add,List.getElem?_append_left hk]
  exact List.getElem?_eq_getElem hk
 |o::os,m+1,hm,k,hk=>by
  show(zAu o++orgs os)[(m+1)*2+k]? =_
  rw [List.getElem?_append_right (by show 2≤_;omega)]
  have e:(m+1)*2+k - (zAu o).length=m*2+k:=by show(m+1)*2+k - 2=_;omega
  rw [e]
  exact xOx os m (by simpa using hm) k hk
theorem xWG(os:List Org):∀u ∈ orgs os,u.oneCell' =true:=by
 intro u hu
 obtain⟨o,_,hu⟩:=List.mem_flatMap.1 hu
 simp only [zAu,List.mem_cons,List.not_mem_nil,or_false] at hu
 rcases hu with rfl |rfl <;>rfl
def RowIn(w:World)(v:Value)(os:List Org):Prop :=
 ∃p c,v= .slice p os.length c∧(os= []∨∃a:Addr,p=some a∧a.block<w.heap.size∧∀j u,(orgs os)[j]? =some u→w.cell? (a.add j)=some u)
theorem xOz{P:Program}(w:World)(t ty e:TypeId)(i:TypeInfo)(ht:P.underlying t=some (.slice e))(hi:P.info? e=some i)(b:Option Addr)(n cap c:Nat)(h:n≤cap) :
 (Builtin.append_ #[t,t] ty #[.slice b n cap, .slice none 0 c]).run P w= .ok (.slice b n cap) w:=by
 cases b with
 |none=>simp [Builtin.append_,run_underlying ht,sizeOf,typeInfo,hi,Builtin.lenOf,Builtin.firstCells,h,Result.andThen]
 |some ad=>simp [Builtin.append_,run_underlying ht,sizeOf,typeInfo,hi,Builtin.lenOf,Builtin.firstCells,storeCells,h,Result.andThen]
def OwnRow(w:World)(te g cap:Nat)(xs:List Org):Prop :=
 ∃cur,w.heap[g]? =some (.cells cur te (0,0))∧xs.length≤cap∧cap≤maxLen∧cur.size=cap*2∧cur.toList.take (xs.length*2)=orgs xs
theorem OwnRow.kept{w w' :World}{te g cap:Nat}{xs:List Org}(h:OwnRow w te g cap xs)(e:w'.heap[g]? =w.heap[g]?):OwnRow w' te g cap xs:=by
 obtain⟨cur,h1,h2⟩:=h
 exact⟨cur,e.trans h1,h2⟩
theorem OwnRow.lt{w:World}{te g cap:Nat}{xs:List Org}(h:OwnRow w te g cap xs):g<w.heap.size:=by
 obtain⟨cur,h1,h2⟩:=h
 exact(Array.getElem?_eq_some_iff.1 h1).1
theorem OwnRow.cell{w:World}{te g cap:Nat}{xs:List Org}(h:OwnRow w te g cap xs){j:Nat}{u:Value}(hj:(orgs xs)[j]? =some u):w.cell? ⟨g,j,none⟩=some u:=by
 obtain⟨cur,h1,h2,h3,h4,h5⟩:=h
 simp only [World.cell?,h1]
 rw [←h5,List.getElem?_take] at hj
 split at hj
 ·simpa using hj
 ·cases hj
theorem OwnRow.org{w:World}{te g cap:Nat}{xs:List Org}(h:OwnRow w te g cap xs):OrgRow w g cap xs:=by
 have hc:=fun j u=>h.cell (j:=j) (u:=u)
 obtain⟨cur,h1,h2,h3,h4,h5⟩:=h
 refine⟨h2,cur,te,0,0,h1,h4.symm,fun o a b=>by omega,fun m hm k hk=> ?_⟩
 have:=hc _ _ (xOx xs m hm k hk)
 simpa [World.cell?,h1] using this
theorem xQ8{P:Program}{te ti tm tb ts:TypeId}(T:OrgT P te ti tm tb ts)(w:World)(ty:Nat)(i:TypeInfo)(hi:P.info? te=some i){z:Value}(hz:i.zero=some z)(hsize:i.size=2)(hby:i.bytes=16)(hzs:z.cells.size=2)
 {g cap:Nat} {xs:List Org} (hown:OwnRow w te g cap xs) {u:Value} {ys:List Org} (hin:RowIn w u ys) (hlen:xs.length+ys.length≤1000000000000) :
 ∃g' cap' w',(Builtin.append_ #[ts,ts] ty #[.slice (some ⟨g,0,none⟩) xs.length cap,u]).run P w= .ok (.slice (some ⟨g',0,none⟩) (xs++ys).length cap') w' ∧OwnRow w' te g' cap' (xs++ys)∧w.grownBy w' (some g)∧(g' =g∨g' =w.heap.size):=by
 obtain⟨p,c,rfl,hp⟩:=hin
 have hown0:w.ownsRow 0 te 2 (.slice (some ⟨g,0,none⟩) xs.length cap) xs.length (orgs xs):=by
  obtain⟨cur,h1,h2,h3,h4,h5⟩:=hown
  exact⟨xNP xs, .inr ⟨g,cap,cur,rfl,Nat.zero_le _,h1,h2,h3,h4,h5⟩⟩
 have main:∀ad:Addr,(∀j u,(orgs ys)[j]? =some u→w.cell? (ad.add j)=some u)→∃g' cap' w',(Builtin.append_ #[ts,ts] ty #[.slice (some ⟨g,0,none⟩) xs.length cap, .slice (some ad) ys.length c]).run P w= .ok (.slice (some ⟨g',0,none⟩) (xs++ys).length cap') w' ∧
  OwnRow w' te g' cap' (xs++ys)∧w.grownBy w' (some g)∧(g' =g∨g' =w.heap.size):=by
  intro ad had
  obtain⟨v',w',hr,h2,h3,h4,h5⟩:=run_append_own_at (P:=P) w 0 ts ty te i z 2 16 T.slice hi hz hsize hby hzs (by decide) _ xs.length (orgs xs) hown0 ad ys.length c (orgs ys) (xNP ys) had (xWG ys) (by unfold maxLen;omega) (by omega) (Nat.zero_le _)
  rcases h2.2 with ⟨rfl,_⟩ |⟨g',cap',cur,rfl,_,q1,q2,q3,q4,q5⟩
  ·have:=h4.1 rfl
   exact absurd this.1 (by simp)
  ·refine⟨g',cap',w',by rw [hr,List.length_append],⟨cur,q1,by rw [jA];exact q2,q3,q4,by rw [jA,xWF];exact q5⟩,h3,?_⟩
   simpa [Value.ownBlock] using h5
 rcases hp with hnil |⟨ad,rfl,_,had⟩
 ·subst hnil
  cases p with
  |some ad=>exact main ad (fun j u h=>by simp [orgs] at h)
  |none =>
   have hn:xs.length≤cap:=by obtain⟨cur,h1,h2,_⟩:=hown;exact h2
   refine⟨g,cap,w,?_,by rw [List.append_nil];exact hown,⟨rfl,rfl,rfl,Nat.le_refl _,fun _ _ _=>rfl⟩, .inl rfl⟩
   rw [List.append_nil]
   exact xOz w ts ty te i T.slice hi (some ⟨g,0,none⟩) xs.length cap c hn
 ·exact main ad had
theorem xJj{P:Program}{te ti tm tb ts:TypeId}(w:World){ops:Array Oper}{rest:List Oper}{o:Oper}{a:Act}{Q:Exit→Act→World→Prop}(T:OrgT P te ti tm tb ts)(hg:o.guard=none)(s x:Operand)
 (hop:o.op= .call { callee:= .builtin .append,args:= #[s,x],argTypes:= #[ts,ts] }) (i:TypeInfo) (hi:P.info? te=some i) {z:Value} (hz:i.zero=some z) (hsize:i.size=2) (hby:i.bytes=16) (hzs:z.cells.size=2)
 (g cap:Nat) (xs:List Org) (hs:a.eval s= .slice (some ⟨g,0,none⟩) xs.length cap) (hown:OwnRow w te g cap xs) (u:Value) (hx:a.eval x=u) (ys:List Org) (hin:RowIn w u ys) (hlen:xs.length+ys.length≤1000000000000)
 (hK:∀g' cap' w',OwnRow w' te g' cap' (xs++ys)→w.grownBy w' (some g)→(g' =g∨g' =w.heap.size)→wpList P ops Q rest (a.put o.dst (.slice (some ⟨g',0,none⟩) (xs++ys).length cap')) w') :
 wpList P ops Q (o::rest) a w:=by
 refine wpList_plain hg fun K' hK' => ?_
 obtain⟨g',cap',w',hr,h2,h3,h4⟩:=xQ8 (P:=P) T w o.type i hi hz hsize hby hzs hown hin hlen
 unfold Oper.wp execOp
 simp only [hop,resolve,invoke,builtin,Sem.run_bind,Sem.run_pure,Result.andThen_ok,List.map_toArray,List.map_cons,List.map_nil,hs,hx,hr]
 exact hK' _ _ (hK g' cap' w' h2 h3 h4)
theorem RowIn.kept{w w' :World}{v:Value}{os:List Org}(h:RowIn w v os)(hs:w.heap.size≤w'.heap.size)(ho:∀b,b<w.heap.size→w'.heap[b]? =w.heap[b]?):RowIn w' v os:=by
 obtain⟨p,c,rfl,h⟩:=h
 refine⟨p,c,rfl,h.imp id ?_⟩
 rintro ⟨a,rfl,ha,hc⟩
 refine⟨a,rfl,by omega,fun j u hj=> ?_⟩
 rw [←hc j u hj]
 have e:(a.add j).block=a.block:=by unfold Addr.add;split <;>rfl
 simp only [World.cell?,e,ho _ ha]
theorem xJz{w:World}{o:Obj}{b:Nat}(hb:b<w.heap.size):(w.alloc o).heap[b]? =w.heap[b]? :=Below.heap_alloc w o b hb
theorem xIa(w:World)(o:Obj):(w.alloc o).heap.size=w.heap.size+1:=Array.size_push _
theorem RowIn.below{w w' :World}{v:Value}{os:List Org}(h:RowIn w v os)(hb:Below w.heap.size w w'):RowIn w' v os:=h.kept hb.size hb.block
theorem set4(w:World)(o1 o2 o3:Obj)(te:TypeId):OwnRow ((((w.alloc o1).alloc o2).alloc o3).alloc (.cells #[] te)) te (w.heap.size+1+1+1) 0 []:=by
 refine⟨#[],?_,Nat.le_refl _,by decide,rfl,rfl⟩
 have e:w.heap.size+1+1+1=(((w.alloc o1).alloc o2).alloc o3).heap.size:=by rw [xIa,xIa,xIa]
 rw [e]
 show(Array.push _ _)[_]? =_
 rw [Array.getElem?_push,if_pos rfl]
theorem xUS(w:World)(o1 o2 o3 o4:Obj):Below w.heap.size w ((((w.alloc o1).alloc o2).alloc o3).alloc o4) :=
 ((((Below.refl w.heap.size w).alloc (Nat.le_refl _) o1).alloc (by rw [xIa];omega) o2).alloc (by rw [xIa,xIa];omega) o3).alloc (by rw [xIa,xIa,xIa];omega) o4
theorem xTu(os:List Org)(k:Nat)(hk:k<os.length):ded (os.take (k+1))=zIy (ded (os.take k)) os[k]:=by
 unfold ded
 rw [List.take_succ_eq_append_getElem hk,List.foldl_append]
 rfl
theorem vAg(os:List Org):(ded os).length≤os.length:=by
 unfold ded
 have:∀(os acc:List Org),(os.foldl zIy acc).length≤acc.length+os.length:=by
  intro os
  induction os with
  |nil=>intro acc;simp
  |cons o os ih =>
   intro acc
   rw [List.foldl_cons]
   refine Nat.le_trans (ih _) ?_
   unfold zIy
   split <;>simp <;>omega
 simpa using this os []
structure URel (w:World) (te ts B S ga ca:Nat) (all:List Org) (k g cap:Nat) (wr:World):Prop where
 set:SetMap wr B (ded (all.take k))
 box:wr.heap[B+1+1]? =some (.cells #[.slice (some ⟨g,0,none⟩) (ded (all.take k)).length cap] ts (0,0))
 row:OwnRow wr te g cap (ded (all.take k))
 all:OwnRow wr te ga ca all
 below:Below B w wr
 size:S≤wr.heap.size
 hg:g=B+1∨S≤g
 hga:B+3≤ga∧ga<S
theorem URel.cell{w wr:World}{te ts B S ga ca k g cap:Nat}{all:List Org}(h:URel w te ts B S ga ca all k g cap wr):wr.cell? ⟨B+1+1,0,none⟩=some (.slice (some ⟨g,0,none⟩) (ded (all.take k)).length cap):=by
 simp [World.cell?,h.box]
theorem URel.old{w wr:World}{te ts B S ga ca k g cap:Nat}{all:List Org}(h:URel w te ts B S ga ca all k g cap wr)(hk:k<all.length)(hc:(ded (all.take k)).contains all[k]=true)(o:Obj):URel w te ts B S ga ca all (k+1) g cap (wr.alloc o):=by
 have hsz:=h.size
 have hal:∀b,b<wr.heap.size→(wr.alloc o).heap[b]? =wr.heap[b]? :=fun b hb=>xJz (by omega)
 have e:ded (all.take (k+1))=ded (all.take k):=by rw [xTu _ _ hk];unfold zIy;rw [if_pos hc]
 have h1:=h.hga
 refine⟨by rw [e];exact h.set.kept (hal _ (by omega)),by rw [e,hal _ (by omega)];exact h.box,by rw [e];exact h.row.kept (hal _ h.row.lt),h.all.kept (hal _ h.all.lt),h.below.alloc (by omega) _,by rw [xIa];omega,h.hg,h1⟩
theorem xTo{w:World}{b:Nat}{v0 v:Value}{ty:TypeId}(h:w.heap[b]? =some (.cells #[v0] ty (0,0))):(w.setCell ⟨b,0,none⟩ v).heap[b]? =some (.cells #[v] ty (0,0))∧∀k,k≠b→(w.setCell ⟨b,0,none⟩ v).heap[k]? =w.heap[k]? :=by
 refine⟨?_,fun k hk=>Below.heap_setCell w _ v k hk⟩
 have hb:b<w.heap.size:=(Array.getElem?_eq_some_iff.1 h).1
 simp [World.setCell,Array.getElem?_modify,h]
theorem URel.new{w wr w2 w4:World}{te ts B S ga ca k g cap g' cap' :Nat}{all:List Org}(h:URel w te ts B S ga ca all k g cap wr)(hk:k<all.length)(hc:(ded (all.take k)).contains all[k]=false){o1 o3:Obj}
 (s2:SetMap w2 B (ded (all.take k)++ [all[k]])) (g2:(wr.alloc o1).grownBy w2 (some B)) (z2:w2.heap.size=(wr.alloc o1).heap.size)
 (r4:OwnRow w4 te g' cap' (ded (all.take k)++ [all[k]])) (g4:(w2.alloc o3).grownBy w4 (some g)) (hg' :g' =g∨g' =(w2.alloc o3).heap.size) :
 URel w te ts B S ga ca all (k+1) g' cap' (w4.setCell ⟨B+1+1,0,none⟩ (.slice (some ⟨g',0,none⟩) (ded (all.take k)++ [all[k]]).length cap')):=by
 have hsz:=h.size
 have e:ded (all.take (k+1))=ded (all.take k)++ [all[k]]:=by rw [xTu _ _ hk];unfold zIy;rw [if_neg (by rw [hc];simp)]
 have h1:=h.hga
 have h2:=h.hg
 have hgl:=h.row.lt
 have zs1:(wr.alloc o1).heap.size=wr.heap.size+1:=xIa _ _
 have zs3:(w2.alloc o3).heap.size=w2.heap.size+1:=xIa _ _
 have z4:=g4.size
 have q1:∀b,b<wr.heap.size→b≠B→w2.heap[b]? =wr.heap[b]? :=fun b hb hne=>(g2.block b (by omega) (by simp;omega)).trans (xJz (by omega))
 have q4:∀b,b<wr.heap.size→b≠B→b≠g→w4.heap[b]? =wr.heap[b]? :=fun b hb hne hne2=>((g4.block b (by omega) (by simp;omega)).trans (xJz (by omega))).trans (q1 b hb hne)
 have hbx:w4.heap[B+1+1]? =some (.cells #[.slice (some ⟨g,0,none⟩) (ded (all.take k)).length cap] ts (0,0)):=(q4 _ (by omega) (by omega) (by omega)).trans h.box
 obtain⟨b1,b2⟩:=xTo (v:= .slice (some ⟨g',0,none⟩) (ded (all.take k)++ [all[k]]).length cap') hbx
 refine⟨?_,?_,?_,?_,?_,?_,?_,h1⟩
 ·rw [e]
  exact s2.kept ((b2 _ (by omega)).trans ((g4.block B (by omega) (by simp;omega)).trans (xJz (by omega))))
 ·rw [e];exact b1
 ·rw [e];exact r4.kept (b2 _ (by omega))
 ·exact h.all.kept ((b2 _ (by omega)).trans (q4 _ h.all.lt (by omega) (by omega)))
 ·refine Below.setCell ?_ (by show B≤B+1+1;omega) _
  refine Below.grown ?_ g4 (by omega) (fun k hk=>by cases hk;omega)
  refine Below.alloc ?_ (by omega) _
  refine Below.grown ?_ g2 (by omega) (fun k hk=>by cases hk;omega)
  exact h.below.alloc (by omega) _
 ·have:(w4.setCell ⟨B+1+1,0,none⟩ (.slice (some ⟨g',0,none⟩) (ded (all.take k)++ [all[k]]).length cap')).heap.size=w4.heap.size:=by simp [World.setCell]
  omega
 ·omega
theorem URel.start{w w1 w2:World}{te ts g1 g2 c2:Nat}{xs ys:List Org}(r2:OwnRow w2 te g2 c2 ([]++xs++ys))
 (gr1:((((w.alloc (.map #[] 0)).alloc (.cells #[] te)).alloc (.cells #[.slice (some { block:=w.heap.size+1,off:=0 }) 0 0] ts)).alloc (.cells #[] te)).grownBy w1 (some (w.heap.size+1+1+1)))
 (e1:g1=w.heap.size+1+1+1∨g1=((((w.alloc (.map #[] 0)).alloc (.cells #[] te)).alloc (.cells #[.slice (some { block:=w.heap.size+1,off:=0 }) 0 0] ts)).alloc (.cells #[] te)).heap.size)
 (gr2:w1.grownBy w2 (some g1)) (e2:g2=g1∨g2=w1.heap.size):URel w te ts w.heap.size w2.heap.size g2 c2 (xs++ys) 0 (w.heap.size+1) 0 w2:=by
 generalize hA:((w.alloc (.map #[] 0)).alloc (.cells #[] te)).alloc (.cells #[.slice (some { block:=w.heap.size+1,off:=0 }) 0 0] ts)=A at gr1 e1
 have za:A.heap.size=w.heap.size+3:=by rw [←hA,xIa,xIa,xIa]
 have z4:(A.alloc (.cells #[] te)).heap.size=w.heap.size+4:=by rw [xIa,za]
 have s1:=gr1.size
 have s2:=gr2.size
 have a0:A.heap[w.heap.size]? =some (.map #[] 0):=by
  rw [←hA,xJz (by rw [xIa,xIa];omega),xJz (by rw [xIa];omega)]
  show(Array.push _ _)[_]? =_
  rw [Array.getElem?_push,if_pos rfl]
 have a1:A.heap[w.heap.size+1]? =some (.cells #[] te):=by
  rw [←hA,xJz (by rw [xIa,xIa];omega)]
  show(Array.push _ _)[_]? =_
  rw [Array.getElem?_push,if_pos (xIa _ _).symm]
 have a2:A.heap[w.heap.size+1+1]? =some (.cells #[.slice (some { block:=w.heap.size+1,off:=0 }) 0 0] ts):=by
  rw [←hA]
  show(Array.push _ _)[_]? =_
  rw [Array.getElem?_push,if_pos (by rw [xIa,xIa])]
 have keep:∀b,b<w.heap.size+3→w2.heap[b]? =A.heap[b]? :=fun b hb =>
  (gr2.block b (by omega) (by simp;omega)).trans ((gr1.block b (by omega) (by simp;omega)).trans (xJz (by omega)))
 have hd:ded ((xs++ys).take 0)= []:=by simp [ded]
 refine⟨?_,?_,?_,by simpa using r2,?_,Nat.le_refl _, .inl rfl,by omega,?_⟩
 ·rw [hd];exact⟨#[],0,(keep _ (by omega)).trans a0,rfl,by simp⟩
 ·rw [hd];exact(keep _ (by omega)).trans a2
 ·rw [hd];exact⟨#[],(keep _ (by omega)).trans a1,Nat.le_refl _,by decide,rfl,rfl⟩
 ·refine Below.grown (Below.grown ?_ gr1 (by omega) (fun k hk=>by cases hk;omega)) gr2 (by omega) (fun k hk=>by cases hk;omega)
  rw [←hA]
  exact xUS w _ _ _ _
 ·exact r2.lt
theorem URel.mid{w wr w3:World}{te ts B S ga ca k g cap:Nat}{all:List Org}(h:URel w te ts B S ga ca all k g cap wr){a b:Value}(g3:(wr.alloc (.cells #[a,b] te)).grownBy w3 (some B))(z3:w3.heap.size=(wr.alloc (.cells #[a,b] te)).heap.size) :
 w3.cell? ⟨B+1+1,0,none⟩=some (.slice (some ⟨g,0,none⟩) (ded (all.take k)).length cap)∧w3.cell? ⟨wr.heap.size,0,none⟩=some a∧w3.cell? ⟨wr.heap.size,1,none⟩=some b∧∀o,OwnRow (w3.alloc o) te g cap (ded (all.take k)):=by
 have hsz:=h.size
 have h1:=h.hga
 have h2:=h.hg
 have hgl:=h.row.lt
 have zs1:=xIa wr (.cells #[a,b] te)
 have q1:∀b,b<wr.heap.size→b≠B→w3.heap[b]? =wr.heap[b]? :=fun b hb hne=>(g3.block b (by omega) (by simp;omega)).trans (xJz (by omega))
 have qn:w3.heap[wr.heap.size]? =some (.cells #[a,b] te):=by
  rw [g3.block _ (by omega) (by simp;omega)]
  show(Array.push _ _)[_]? =_
  rw [Array.getElem?_push,if_pos rfl]
 refine⟨?_,by simp [World.cell?,qn],by simp [World.cell?,qn],fun o=> ?_⟩
 ·simp only [World.cell?,q1 (B+1+1) (by omega) (by omega),h.box]
  rfl
 ·exact h.row.kept ((xJz (by omega)).trans (q1 g hgl (by omega)))
theorem xWd(w:World)(te:Nat)(c:Org):RowIn (w.alloc (.cells #[.int .i64 c.cell, .int .i64 c.row] te)) (.slice (some ⟨w.heap.size,0,none⟩) 1 1) [c]:=by
 refine⟨_,1,rfl, .inr ⟨_,rfl,by rw [xIa];exact Nat.lt_succ_self _,fun j u hj=> ?_⟩⟩
 have hq:∀i,(w.alloc (.cells #[.int .i64 c.cell, .int .i64 c.row] te)).cell? ⟨w.heap.size,i,none⟩=(#[.int .i64 c.cell, .int .i64 c.row]:Array Value)[i]? :=fun i=>by
  have hq:(w.alloc (.cells #[.int .i64 c.cell, .int .i64 c.row] te)).heap[w.heap.size]? =some (.cells #[.int .i64 c.cell, .int .i64 c.row] te):=by
   show(Array.push _ _)[_]? =_
   rw [Array.getElem?_push,if_pos rfl]
  simp only [World.cell?,hq]
  rfl
 match j,hj with
 |0,hj =>
  simp [orgs,zAu] at hj
  subst hj
  simp only [Addr.add]
  exact hq _
 |1,hj =>
  simp [orgs,zAu] at hj
  subst hj
  simp only [Addr.add]
  exact hq _
 |j+2,hj=>simp [orgs,zAu] at hj
theorem URel.mid4{w wr w3 w4:World}{te ts B S ga ca k g cap:Nat}{all:List Org}(h:URel w te ts B S ga ca all k g cap wr){o1 o3:Obj}(g3:(wr.alloc o1).grownBy w3 (some B))(z3:w3.heap.size=(wr.alloc o1).heap.size)
 (g4:(w3.alloc o3).grownBy w4 (some g)) :
 w4.cell? ⟨B+1+1,0,none⟩=some (.slice (some ⟨g,0,none⟩) (ded (all.take k)).length cap)∧w4.frozen? ⟨B+1+1,0,none⟩=false:=by
 have hsz:=h.size
 have h1:=h.hga
 have h2:=h.hg
 have hgl:=h.row.lt
 have zs1:=xIa wr o1
 have zs3:=xIa w3 o3
 have q:w4.heap[B+1+1]? =wr.heap[B+1+1]? :=
  (g4.block _ (by omega) (by simp;omega)).trans ((xJz (by omega)).trans ((g3.block _ (by omega) (by simp;omega)).trans (xJz (by omega))))
 constructor
 ·simp only [World.cell?,q,h.box]
  rfl
 ·simp [World.frozen?,q,h.box]
end Go.Ab
end
section
namespace Go.Ab
open Go.Lib Go.Extern Go.Proofs Go.Shelf Go.RowKit
variable [Inhabited Lb]
theorem vEr{P:Program}{ρ:Ren}(L:LaysGg.n6 P ρ)(t e:TypeId)(i ie:TypeInfo)(hi:P.info? t=some i)(hd:i.desc= .slice e)(hpk:P.packed t=false)(hie:P.info? e=some ie)(ke:Nat)
 (hke:∀w,(Extern.Rtype.kind e).run P w= .ok ke w) (hnp:ie.hasPointers=false) (hby:ie.bytes=16) (f1 f2 f lf:Nat) (hf1:P.funcs.findIdx? (·.name== "internal/reflectlite" ++ ".Swapper$1")=some f1)
 (hf2:P.funcs.findIdx? (·.name== "internal/reflectlite" ++ ".Swapper$2")=some f2) (hf:P.funcs.findIdx? (·.name== "internal/reflectlite" ++ ".Swapper$9")=some f)
 (hpdq:∀xs:List Org,2≤xs.length→xs.length≤1000000000000→AbsCalls P (ρ.f 14) [.val (.v true [.clo lf [gi 4], .swp f 0 (typeHandle P e) (gi 4)]), .val (.v false [.int .i64 0]), .val (.v false [.int .i64 xs.length]), .val (.v false [.int .i64 (Lib.bitLen xs.length)]), .gbox [.sl (.lnt 0) .org xs]]
   ⟨.tup [], [[.sl (.lnt 0) .org (xs.mergeSort fun x y=> !olt y x)]], []⟩)
 {w:World} {bo br cap:Nat} {ty:TypeId} {xs:List Org} (hlen:xs.length≤1000000000000) (hbo:w.heap[bo]? =some (.cells #[.slice (some ⟨br,0,none⟩) xs.length cap] ty (0,0))) (hbr:OrgRow w br cap xs) (hne:bo≠br)
 (hbase:∀x ∈ zH7,x.1<w.heap.size∧x.1≠bo∧x.1≠br∧w.heap[x.1]? =some x.2) :
 Calls P (ρ.f 6) #[.iface t (.slice (some ⟨br,0,none⟩) xs.length cap), .func (.func lf) #[] #[.pointer (some ⟨bo,0,none⟩)]] w fun en w' =>en= .returned (.tuple #[])∧Sorted w bo br cap xs (xs.mergeSort fun x y=> !olt y x) w' :=by
 by_cases h2:2≤xs.length
 ·exact xOB L t e i ie hi hd hpk hie ke hke hnp hby f lf hf (by simp) h2 (by omega) (hpdq xs h2 hlen) hbo hbr hne hbase
 ·have hn:xs.length≤1:=by omega
  have hms:(xs.mergeSort fun x y=> !olt y x)=xs:=by
   match xs,hn with
   | [],_=>simp
   | [a],_=>simp
  rw [hms]
  have hfi:∃f0,P.funcs.findIdx? (·.name== "internal/reflectlite" ++ ".Swapper$" ++toString (swapperK xs.length ie ke))=some f0:=by
   match h:xs.length,hn with
   |0,_=>exact⟨f1,by rw [show swapperK 0 ie ke=1 from rfl];exact hf1⟩
   |1,_=>exact⟨f2,by rw [show swapperK 1 ie ke=2 from rfl];exact hf2⟩
  obtain⟨f0,hf0⟩:=hfi
  refine(Any.sort_Slice_tiny L t e i ie hi hd hpk hie ke hke (some ⟨br,0,none⟩) xs.length cap hn f0 hf0 (.func lf) #[] #[.pointer (some ⟨bo,0,none⟩)] w).mono ?_
  rintro en w' ⟨rfl,os,rfl⟩
  have hbol:bo<w.heap.size:=(Array.getElem?_eq_some_iff.1 hbo).1
  have hbrl:br<w.heap.size:=by
   obtain⟨_,cs,ty,lo,hi,h,_⟩:=hbr
   exact(Array.getElem?_eq_some_iff.1 h).1
  refine⟨rfl,rfl,rfl,rfl,by rw [Sort.size_grow];omega,fun b hb _ _=>Sort.heap_grow_old _ _ hb,⟨ty,(Sort.heap_grow_old _ _ hbol).trans hbo⟩,?_⟩
  obtain⟨h1,cs,ty',lo,hi',h3,h4⟩:=hbr
  exact⟨h1,cs,ty',lo,hi',(Sort.heap_grow_old _ _ hbrl).trans h3,h4⟩
theorem vAx{w:World}{ok:List (Nat × Nat)→Nat→Nat→Prop}{q:List (Nat × Nat)→Value→Nat→Prop}{x:Org}{y:Value}:∀ {k:Nat} {hk:k<(Ty.org.toD x).length},RdP w ok q y ((Ty.org.toD x)[k])→y=(zAu x)[k]'hk
 |0,_,h=>by simp only [Ty.toD,List.getElem_cons_zero] at h;cases h;rfl
 |1,_,h=>by simp only [Ty.toD,List.getElem_cons_succ,List.getElem_cons_zero] at h;cases h;rfl
 |k+2,hk,_=>absurd hk (by show ¬k+2<2;omega)
theorem xTP{E:Env}{pl:Pl}{c:Nat}{v:Value}{os:List Org}(h:RdP E.w (okF E pl c .ro) (qF E pl c .ro) v (.sl 2 (os.map Ty.org.toD))):RowIn E.w v os:=by
 by_cases hx:os= []
 ·subst hx
  obtain⟨ad,cap,rfl,_⟩:=RdP.shape h
  exact⟨ad,cap,rfl, .inl rfl⟩
 ·obtain⟨b,off,cap,rfl,hcap,hrl,hq,u,hcl,hk⟩:=RdP.cells h (by simpa using hx)
  refine⟨some ⟨b,off,none⟩,cap,by rw [List.length_map], .inr ⟨_,rfl,?_,fun j x hj=> ?_⟩⟩
  ·have hpos:0<(os.map Ty.org.toD).length:=by
    cases os with
    |nil=>exact absurd rfl hx
    |cons _ _=>simp
   have h0:=(hcl 0 0 hpos (by decide)).1
   by_cases hlt:b<E.w.heap.size
   ·exact hlt
   ·simp [World.cell?,Array.getElem?_eq_none (Nat.le_of_not_lt hlt)] at h0
  ·have hj2:j<(orgs os).length:=(List.getElem?_eq_some_iff.1 hj).1
   rw [xNP] at hj2
   have e:j=j / 2*2+j % 2:=by omega
   have hm:j / 2<os.length:=by omega
   have hk2:j % 2<2:=Nat.mod_lt _ (by decide)
   have h1:=xOx os (j / 2) hm (j % 2) hk2
   rw [←e,hj] at h1
   cases h1
   have g1:=(hcl (j / 2) (j % 2) (by simpa using hm) hk2).1
   have hr:((os.map Ty.org.toD)[j / 2]'(by simpa using hm))=Ty.org.toD os[j / 2]:=by rw [List.getElem_map]
   have g2:=hk (j / 2) (j % 2) (by simpa using hm) (by rw [hr];exact hk2)
   have ha:(⟨b,off,none⟩:Addr).add j=⟨b,off+(j / 2)*2+j % 2,none⟩:=by
    rw [show off+j / 2*2+j % 2=off+j by omega]
    unfold Addr.add
    split
    ·rename_i h0;rw [h0];rfl
    ·rfl
   rw [ha,g1]
   simp only [hr] at g2
   exact congrArg some (vAx g2)
theorem xU3{P:Program}{f:FuncId}(hf:∀args w,(callFunc f args).run P w= .ok (.enter f args) w)
 (hc:∀(xs ys:List Org) (u v:Value) (w:World),RowIn w u xs→RowIn w v ys→xs.length+ys.length≤1000000000000→(∀x ∈ zH7,x.1<w.heap.size∧w.heap[x.1]? =some x.2)→
   Calls P f #[u,v] w fun e w' =>∃br cap,e= .returned (.slice (some ⟨br,0,none⟩) (zJc xs ys).length cap)∧Below w.heap.size w w' ∧w.heap.size≤br∧OrgRow w' br cap (zJc xs ys))
 {xs ys zs:List Org} (h:zJr xs ys=some zs):AbsCalls P f [.val (.v false [.sl .ro .org xs]), .val (.v false [.sl .ro .org ys])] ⟨.v false [.sl .own .org zs], [], []⟩:=by
 unfold zJr at h
 split at h
 case isFalse=>cases h
 rename_i hlen
 cases h
 refine AbsCalls.of_enter hf fun E args hE hB hA=> ?_
 match args,hA with
 |⟨[v1,v2]⟩,hA =>
  obtain⟨⟨hv1,_⟩,⟨hv2,_⟩,_⟩:=hA
  refine(hc xs ys v1 v2 E.w (xTP hv1) (xTP hv2) hlen fun x hx=>⟨(hB x hx).1,(hB x hx).2.2.1⟩).mono ?_
  rintro e w' ⟨br,cap,rfl,hb,hbr,hrow⟩
  generalize zJc xs ys=zs at hrow
  have hbl:br<w'.heap.size:=by
   obtain⟨_,cs,ty,lo,hi,h,_⟩:=hrow
   exact(Array.getElem?_eq_some_iff.1 h).1
  have h0:=hE.new br hbr
  let E' :Env:= { w:=w',hw:=fun b=>if b=br then zs.length*2 else E.hw b,ow:=fun b=>if b=br then some (.arr (.h 0) 0 []) else(E.ow b).bind (fun l=>if l= .arr (.h 0) 0 [] then none else some l),bx:=E.bx,hdr:=fun _=> .slice (some ⟨br,0,none⟩) zs.length cap }
  have hrd:=OrgRow.rd (E:=E') (pl:= .h 0) (c:=0) hrow (if_pos rfl) (if_pos rfl) 0 rfl
  refine⟨_,{ E' with hdr:=E.hdr },rfl,rfl,?_⟩
  refine { os:=hb.os,tape:=hb.tape,output:=hb.output,size:=hb.size,hdr:=rfl,old:=fun b hlt h1=> ?_,env:=⟨fun b hbb=> ?_,fun b b' l g1 g2=> ?_,fun b s h=> ?_⟩,res:= ?_,outs:=trivial,lents:=trivial,bx:=fun _ _=>rfl }
  ·have e:b≠br:=by omega
   exact⟨hb.block b hlt,by simp [E',e],by simp [E',e,h1]⟩
  ·have hbb:w'.heap.size≤b:=hbb
   have e:b≠br:=by omega
   have:=hE.new b (by have:=hb.size;omega)
   exact⟨by simp [E',e,this.1],by simp [E',e,this.2]⟩
  ·simp only [E'] at g1 g2
   split at g1 <;>split at g2
   ·rename_i e1 e2;rw [e1,e2]
   ·cases g1
    simp only [Option.bind_eq_some_iff] at g2
    obtain⟨l2,_,c2⟩:=g2
    split at c2
    ·cases c2
    ·rename_i hne;cases c2;exact absurd rfl hne
   ·cases g2
    simp only [Option.bind_eq_some_iff] at g1
    obtain⟨l2,_,c2⟩:=g1
    split at c2
    ·cases c2
    ·rename_i hne;cases c2;exact absurd rfl hne
   ·simp only [Option.bind_eq_some_iff] at g1 g2
    obtain⟨l1,a1,c1⟩:=g1
    obtain⟨l2,a2,c2⟩:=g2
    split at c1
    ·cases c1
    ·split at c2
     ·cases c2
     ·cases c1;cases c2;exact hE.inj _ _ _ a1 a2
  ·simp only [E'] at h ⊢
   split at h
   ·cases h
   ·rename_i hne
    rw [if_neg hne]
    rw [Option.bind_eq_some_iff] at h
    obtain⟨l,a1,c1⟩:=h
    split at c1
    ·cases c1
    ·cases c1;exact hE.boxhw b s a1
  ·refine ResAt.of ?_ rfl
   refine⟨?_,trivial⟩
   exact RdP.mono hrd (fun p b o ho=>⟨rfl,ho⟩) (fun p v sz ht=>ht.1)
 |⟨[]⟩,hA=>exact hA.elim
 |⟨[_]⟩,hA=>exact hA.2.elim
 |⟨_::_::_::_⟩,hA=>exact hA.2.2.elim
end Go.Ab
end
section
namespace Go.Proofs
open Go.Shelf
def Tryz.lays125_ren:Go.Shelf.Ren:=⟨fun |125=>106 |128=>142 |129=>143 |n=>n,fun |46=>121 |3=>3 |51=>140 |53=>142 |4=>4 |5=>5 |9=>9 |n=>n,fun |n=>n⟩
theorem Tryz.lays125:Go.Proofs.Lays.n125 Tryz.prog Tryz.lays125_ren:= {
 mixed:=by kernel_rfl
 f125:=Tryz.func106.trans (congrArg some (by kernel_rfl))
 f128:=Tryz.func142.trans (congrArg some (by kernel_rfl))
 f129:=Tryz.func143.trans (congrArg some (by kernel_rfl))
 t3:=Tryz.underlying3
 a3:=Tryz.isAgg3
 z3:=Tryz.sizeOf3
 v3:=Tryz.zeroValue3
 t4:=Tryz.underlying4
 a4:=Tryz.isAgg4
 z4:=Tryz.sizeOf4
 v4:=Tryz.zeroValue4
 t5:=Tryz.underlying5
 a5:=Tryz.isAgg5
 z5:=Tryz.sizeOf5
 v5:=Tryz.zeroValue5
 t9:=Tryz.underlying9
 a9:=Tryz.isAgg9
 z9:=Tryz.sizeOf9
 v9:=Tryz.zeroValue9
 t46:=Tryz.underlying121
 a46:=Tryz.isAgg121
 z46:=Tryz.sizeOf121
 v46:=Tryz.zeroValue121
 t51:=Tryz.underlying140
 a51:=Tryz.isAgg140
 z51:=Tryz.sizeOf140
 v51:=Tryz.zeroValue140
 t53:=Tryz.underlying142
 a53:=Tryz.isAgg142
 z53:=Tryz.sizeOf142
 v53:=Tryz.zeroValue142 }
def Tryz.laysGg6_ren:Go.Shelf.Ren:=⟨fun |6=>63 |10=>103 |11=>104 |12=>105 |13=>106 |14=>107 |24=>142 |25=>143 |26=>144 |27=>145 |28=>146 |29=>147 |30=>148 |31=>149 |32=>150 |33=>151 |34=>166 |35=>167 |36=>168 |37=>169 |38=>170 |39=>184 |n=>n,fun |20=>20 |26=>83 |35=>115 |0=>0 |37=>117 |3=>3 |41=>121 |44=>124 |49=>140 |51=>142 |4=>4 |54=>145 |53=>144 |58=>149 |5=>5 |9=>9 |60=>157 |64=>161 |66=>171 |67=>172 |17=>17 |32=>112 |33=>113 |82=>194 |12=>12 |75=>187 |76=>188 |77=>189 |78=>190 |79=>191 |80=>192 |n=>n,fun |n=>n⟩
theorem Tryz.laysGg6:Go.Proofs.LaysGg.n6 Tryz.prog Tryz.laysGg6_ren:= {
 mixed:=by kernel_rfl
 f6:=Tryz.func63.trans (congrArg some (by kernel_rfl))
 f10:=Tryz.func103.trans (congrArg some (by kernel_rfl))
 f11:=Tryz.func104.trans (congrArg some (by kernel_rfl))
 f12:=Tryz.func105.trans (congrArg some (by kernel_rfl))
 f13:=Tryz.func106.trans (congrArg some (by kernel_rfl))
 f14:=Tryz.func107.trans (congrArg some (by kernel_rfl))
 f24:=Tryz.func142.trans (congrArg some (by kernel_rfl))
 f25:=Tryz.func143.trans (congrArg some (by kernel_rfl))
 f26:=Tryz.func144.trans (congrArg some (by kernel_rfl))
 f27:=Tryz.func145.trans (congrArg some (by kernel_rfl))
 f28:=Tryz.func146.trans (congrArg some (by kernel_rfl))
 f29:=Tryz.func147.trans (congrArg some (by kernel_rfl))
 f30:=Tryz.func148.trans (congrArg some (by kernel_rfl))
 f31:=Tryz.func149.trans (congrArg some (by kernel_rfl))
 f32:=Tryz.func150.trans (congrArg some (by kernel_rfl))
 f33:=Tryz.func151.trans (congrArg some (by kernel_rfl))
 f34:=Tryz.func166.trans (congrArg some (by kernel_rfl))
 f35:=Tryz.func167.trans (congrArg some (by kernel_rfl))
 f36:=Tryz.func168.trans (congrArg some (by kernel_rfl))
 f37:=Tryz.func169.trans (congrArg some (by kernel_rfl))
 f38:=Tryz.func170.trans (congrArg some (by kernel_rfl))
 f39:=Tryz.func184.trans (congrArg some (by kernel_rfl))
 t0:=Tryz.underlying0
 a0:=Tryz.isAgg0
 z0:=Tryz.sizeOf0
 v0:=Tryz.zeroValue0
 i0:=by kernel_rfl
 t3:=Tryz.underlying3
 a3:=Tryz.isAgg3
 z3:=Tryz.sizeOf3
 v3:=Tryz.zeroValue3
 i3:=by kernel_rfl
 t4:=Tryz.underlying4
 a4:=Tryz.isAgg4
 z4:=Tryz.sizeOf4
 v4:=Tryz.zeroValue4
 i4:=by kernel_rfl
 t5:=Tryz.underlying5
 a5:=Tryz.isAgg5
 z5:=Tryz.sizeOf5
 v5:=Tryz.zeroValue5
 i5:=by kernel_rfl
 t9:=Tryz.underlying9
 a9:=Tryz.isAgg9
 z9:=Tryz.sizeOf9
 v9:=Tryz.zeroValue9
 i9:=by kernel_rfl
 t12:=Tryz.underlying12
 a12:=Tryz.isAgg12
 z12:=Tryz.sizeOf12
 v12:=Tryz.zeroValue12
 i12:=by kernel_rfl
 t17:=Tryz.underlying17
 a17:=Tryz.isAgg17
 z17:=Tryz.sizeOf17
 v17:=Tryz.zeroValue17
 i17:=by kernel_rfl
 t20:=Tryz.underlying20
 a20:=Tryz.isAgg20
 z20:=Tryz.sizeOf20
 v20:=Tryz.zeroValue20
 i20:=by kernel_rfl
 t26:=Tryz.underlying83
 a26:=Tryz.isAgg83
 z26:=Tryz.sizeOf83
 v26:=Tryz.zeroValue83
 i26:=by kernel_rfl
 t32:=Tryz.underlying112
 a32:=Tryz.isAgg112
 z32:=Tryz.sizeOf112
 v32:=Tryz.zeroValue112
 i32:=by kernel_rfl
 t33:=Tryz.underlying113
 a33:=Tryz.isAgg113
 z33:=Tryz.sizeOf113
 v33:=Tryz.zeroValue113
 i33:=by kernel_rfl
 t35:=Tryz.underlying115
 a35:=Tryz.isAgg115
 z35:=Tryz.sizeOf115
 v35:=Tryz.zeroValue115
 i35:=by kernel_rfl
 t37:=Tryz.underlying117
 a37:=Tryz.isAgg117
 z37:=Tryz.sizeOf117
 v37:=Tryz.zeroValue117
 i37:=by kernel_rfl
 t41:=Tryz.underlying121
 a41:=Tryz.isAgg121
 z41:=Tryz.sizeOf121
 v41:=Tryz.zeroValue121
 i41:=by kernel_rfl
 t44:=Tryz.underlying124
 a44:=Tryz.isAgg124
 z44:=Tryz.sizeOf124
 v44:=Tryz.zeroValue124
 i44:=by kernel_rfl
 t49:=Tryz.underlying140
 a49:=Tryz.isAgg140
 z49:=Tryz.sizeOf140
 v49:=Tryz.zeroValue140
 i49:=by kernel_rfl
 t51:=Tryz.underlying142
 a51:=Tryz.isAgg142
 z51:=Tryz.sizeOf142
 v51:=Tryz.zeroValue142
 i51:=by kernel_rfl
 t53:=Tryz.underlying144
 a53:=Tryz.isAgg144
 z53:=Tryz.sizeOf144
 v53:=Tryz.zeroValue144
 i53:=by kernel_rfl
 t54:=Tryz.underlying145
 a54:=Tryz.isAgg145
 z54:=Tryz.sizeOf145
 v54:=Tryz.zeroValue145
 i54:=by kernel_rfl
 t58:=Tryz.underlying149
 a58:=Tryz.isAgg149
 z58:=Tryz.sizeOf149
 v58:=Tryz.zeroValue149
 i58:=by kernel_rfl
 t60:=Tryz.underlying157
 a60:=Tryz.isAgg157
 z60:=Tryz.sizeOf157
 v60:=Tryz.zeroValue157
 i60:=by kernel_rfl
 t64:=Tryz.underlying161
 a64:=Tryz.isAgg161
 z64:=Tryz.sizeOf161
 v64:=Tryz.zeroValue161
 i64:=by kernel_rfl
 t66:=Tryz.underlying171
 a66:=Tryz.isAgg171
 z66:=Tryz.sizeOf171
 v66:=Tryz.zeroValue171
 i66:=by kernel_rfl
 t67:=Tryz.underlying172
 a67:=Tryz.isAgg172
 z67:=Tryz.sizeOf172
 v67:=Tryz.zeroValue172
 i67:=by kernel_rfl
 t75:=Tryz.underlying187
 a75:=Tryz.isAgg187
 z75:=Tryz.sizeOf187
 v75:=Tryz.zeroValue187
 i75:=by kernel_rfl
 t76:=Tryz.underlying188
 a76:=Tryz.isAgg188
 z76:=Tryz.sizeOf188
 v76:=Tryz.zeroValue188
 i76:=by kernel_rfl
 t77:=Tryz.underlying189
 a77:=Tryz.isAgg189
 z77:=Tryz.sizeOf189
 v77:=Tryz.zeroValue189
 i77:=by kernel_rfl
 t78:=Tryz.underlying190
 a78:=Tryz.isAgg190
 z78:=Tryz.sizeOf190
 v78:=Tryz.zeroValue190
 i78:=by kernel_rfl
 t79:=Tryz.underlying191
 a79:=Tryz.isAgg191
 z79:=Tryz.sizeOf191
 v79:=Tryz.zeroValue191
 i79:=by kernel_rfl
 t80:=Tryz.underlying192
 a80:=Tryz.isAgg192
 z80:=Tryz.sizeOf192
 v80:=Tryz.zeroValue192
 i80:=by kernel_rfl
 t82:=Tryz.underlying194
 a82:=Tryz.isAgg194
 z82:=Tryz.sizeOf194
 v82:=Tryz.zeroValue194
 i82:=by kernel_rfl }
end Go.Proofs
end
section
open Go.Proofs
namespace Go.Ab.T
variable [Inhabited Lb]
abbrev AbC(f:FuncId)(a:List Arg)(r:CallO):Prop:=AbsCalls Tryz.prog f a r
abbrev W(x:Int):Int:=IntKind.i64.wrap x
abbrev Ln{α:Type}(l:List α):Nat:=List.length l
abbrev tN(x:Int):Nat:=Int.toNat x
abbrev gD{α:Type}(l:List α)(i:Nat)(d:α):α:=List.getD l i d
abbrev iY(b:Bool):Prop:=b=true
abbrev iN(b:Bool):Prop:=b=false
abbrev dc(p:Prop) [Decidable p]:Bool:=decide p
abbrev vd:Val:=Ty.val.dflt
abbrev rd:Rowd:=Ty.row.dflt
end Go.Ab.T
end
section
open Go.Proofs
namespace Go.Ab.T
set_option maxRecDepth 100000
variable [Inhabited Lb]
def tt:TT:= [(3,{ zero:=some [.int .i64 0],ik:=some .i64 }),
 (4,{ zero:=some [.bool false],isBool:=true }),
 (5,{ zero:=some [.int .u8 0],ik:=some .u8 }),
 (9,{ zero:=some [.str []],isStr:=true }),
 (22,{ zero:=some [.sl .own .val []],elem:=some (26, .val) }),
 (23,{ zero:=some [.sl .own .str []],elem:=some (9, .str) }),
 (24,{ zero:=some [.sl .own .row []],elem:=some (99, .row) }),
 (26,{ sz:=7,agg:=true,zero:=some [.int .i64 0, .int .i64 0, .int .i64 0, .str [], .sl .own .val [], .sl .own .str [], .sl .own .row []],offs:= [0,1,2,3,4,5,6],fsz:= [1,1,1,1,1,1,1] }),
 (28,{ zero:=some [.sl .own .val []],elem:=some (31, .val) }),
 (29,{ zero:=some [.sl .own .row []],elem:=some (45, .row) }),
 (31,{ sz:=7,agg:=true,zero:=some [.int .i64 0, .int .i64 0, .int .i64 0, .str [], .sl .own .val [], .sl .own .str [], .sl .own .row []],offs:= [0,1,2,3,4,5,6],fsz:= [1,1,1,1,1,1,1] }),
 (37,{ zero:=some [.sl .own .byte []],elem:=some (5, .byte) }),
 (42,{ zero:=some [.sl .own .int []],elem:=some (3, .int) }),
 (43,{ zero:=some [.sl .own .org []],elem:=some (80, .org) }),
 (45,{ sz:=2,agg:=true,zero:=some [.sl .own .int [], .sl .own .org []],offs:= [0,1],fsz:= [1,1] }),
 (80,{ sz:=2,agg:=true,zero:=some [.int .i64 0, .int .i64 0],offs:= [0,1],fsz:= [1,1],same:=true }),
 (83,{ zero:=some [.val .nilFunc],isFn:=true }),
 (97,{ zero:=some [.sl .own .org []],elem:=some (155, .org) }),
 (99,{ sz:=2,agg:=true,zero:=some [.sl .own .int [], .sl .own .org []],offs:= [0,1],fsz:= [1,1] }),
 (109,{ sz:=3,agg:=true,zero:=some [.sl .own .byte [], .int .i64 0, .int .i64 0],offs:= [0,1,2],fsz:= [1,1,1] }),
 (117,{ zero:=some [.val .nilFunc],isFn:=true }),
 (121,{ zero:=some [.int .u64 0],ik:=some .u64 }),
 (124,{ sz:=2,agg:=true,zero:=some [.val .nilFunc, .val .nilFunc],offs:= [0,1],fsz:= [1,1] }),
 (142,{ zero:=some [.int .u64 0],ik:=some .u64 }),
 (144,{ zero:=some [.int .i64 0],ik:=some .i64 }),
 (155,{ sz:=2,agg:=true,zero:=some [.int .i64 0, .int .i64 0],offs:= [0,1],fsz:= [1,1],same:=true }),
 (157,{ zero:=some [.int .u64 0],ik:=some .u64 })]
theorem ttok:TTok Tryz.prog tt:=zJj (by kernel_rfl)
theorem mix:Tryz.prog.follows .mixedOrders=true:=by kernel_rfl
def F:Bool:=false
def cl(r:CallO):CallO:=⟨r.res,r.outs, [.clo 0 []]⟩
def Y:Bool:=true
noncomputable def rE (I:Info) (ag:List Arg) (bs:List Bool) (cs:List CallO):Option Res:=run tt (AbsCalls Tryz.prog) I 3000 false [.code I.body] ⟨zA9 0 ag,bs,cs, []⟩
noncomputable def rS (k:Nat) (I:Info) (σ:St) (bs:List Bool) (cs:List CallO):Option Res:=run tt (AbsCalls Tryz.prog) I 3000 true (stkAt k I.body) ⟨σ,bs,cs, []⟩
noncomputable def dn (r:CallO) (ob:List Prop):Option Res:=some (.done r ob)
noncomputable def st (k:Nat) (I:Info) (σ:St) (ob:List Prop):Option Res:=some (.stop (stkAt k I.body) σ ob)
def RE(fn:Func)(I:Info)(ag:List Arg)(r:CallO):Prop:=Reach Tryz.prog fn I [.code I.body] (zA9 0 ag) r
def RS(fn:Func)(I:Info)(k:Nat)(σ:St)(r:CallO):Prop:=Reach Tryz.prog fn I (stkAt k I.body) σ r
section
variable {ρ:Type} {f:FuncId} {fn:Func} {I:Info} {ag:List Arg} {bs:List Bool} {cs:List CallO} {k j:Nat} {σ σ' :St} {ob:List Prop} {ro:ρ→CallO} {x r:ρ} {q:CallO}
theorem dE(e:some x=some r)(hf:FnOk Tryz.prog f fn I)(h:rE I ag bs cs=dn (ro x) ob)(o:∀p ∈ ob,p):RE fn I ag (ro r):=by
 cases e;exact Reach.done ttok mix hf h o
theorem dS(e:some x=some r)(hf:FnOk Tryz.prog f fn I)(h:rS k I σ bs cs=dn (ro x) ob)(o:∀p ∈ ob,p):RS fn I k σ (ro r):=by
 cases e;exact Reach.done ttok mix hf h o
theorem tE(hf:FnOk Tryz.prog f fn I)(h:rE I ag bs cs=st k I σ ob)(o:∀p ∈ ob,p)(t:RS fn I k σ q):RE fn I ag q:=Reach.stop ttok mix hf h o t
theorem tS(hf:FnOk Tryz.prog f fn I)(h:rS j I σ' bs cs=st k I σ ob)(o:∀p ∈ ob,p)(t:RS fn I k σ q):RS fn I j σ' q:=Reach.stop ttok mix hf h o t
end
theorem oc{p:Prop}{l:List Prop}(h:p)(t:∀q ∈ l,q):∀q ∈ p::l,q:=zJi h t
theorem on:∀q ∈ ([]:List Prop),q:=zJm
theorem oc2{p0 p1:Prop}{l:List Prop}(h0:p0)(h1:p1)(t:∀q ∈ l,q):∀q ∈ p0::p1::l,q:=oc h0 (oc h1 t)
theorem oc3{p0 p1 p2:Prop}{l:List Prop}(h0:p0)(h1:p1)(h2:p2)(t:∀q ∈ l,q):∀q ∈ p0::p1::p2::l,q:=oc h0 (oc2 h1 h2 t)
theorem oc4{p0 p1 p2 p3:Prop}{l:List Prop}(h0:p0)(h1:p1)(h2:p2)(h3:p3)(t:∀q ∈ l,q):∀q ∈ p0::p1::p2::p3::l,q:=oc h0 (oc3 h1 h2 h3 t)
theorem oc5{p0 p1 p2 p3 p4:Prop}{l:List Prop}(h0:p0)(h1:p1)(h2:p2)(h3:p3)(h4:p4)(t:∀q ∈ l,q):∀q ∈ p0::p1::p2::p3::p4::l,q:=oc h0 (oc4 h1 h2 h3 h4 t)
theorem oc6{p0 p1 p2 p3 p4 p5:Prop}{l:List Prop}(h0:p0)(h1:p1)(h2:p2)(h3:p3)(h4:p4)(h5:p5)(t:∀q ∈ l,q):∀q ∈ p0::p1::p2::p3::p4::p5::l,q:=oc h0 (oc5 h1 h2 h3 h4 h5 t)
theorem oc7{p0 p1 p2 p3 p4 p5 p6:Prop}{l:List Prop}(h0:p0)(h1:p1)(h2:p2)(h3:p3)(h4:p4)(h5:p5)(h6:p6)(t:∀q ∈ l,q):∀q ∈ p0::p1::p2::p3::p4::p5::p6::l,q:=oc h0 (oc6 h1 h2 h3 h4 h5 h6 t)
theorem oc8{p0 p1 p2 p3 p4 p5 p6 p7:Prop}{l:List Prop}(h0:p0)(h1:p1)(h2:p2)(h3:p3)(h4:p4)(h5:p5)(h6:p6)(h7:p7)(t:∀q ∈ l,q):∀q ∈ p0::p1::p2::p3::p4::p5::p6::p7::l,q:=oc h0 (oc7 h1 h2 h3 h4 h5 h6 h7 t)
theorem oc9{p0 p1 p2 p3 p4 p5 p6 p7 p8:Prop}{l:List Prop}(h0:p0)(h1:p1)(h2:p2)(h3:p3)(h4:p4)(h5:p5)(h6:p6)(h7:p7)(h8:p8)(t:∀q ∈ l,q):∀q ∈ p0::p1::p2::p3::p4::p5::p6::p7::p8::l,q:=oc h0 (oc8 h1 h2 h3 h4 h5 h6 h7 h8 t)
theorem oc10{p0 p1 p2 p3 p4 p5 p6 p7 p8 p9:Prop}{l:List Prop}(h0:p0)(h1:p1)(h2:p2)(h3:p3)(h4:p4)(h5:p5)(h6:p6)(h7:p7)(h8:p8)(h9:p9)(t:∀q ∈ l,q):∀q ∈ p0::p1::p2::p3::p4::p5::p6::p7::p8::p9::l,q:=oc h0 (oc9 h1 h2 h3 h4 h5 h6 h7 h8 h9 t)
theorem oc11{p0 p1 p2 p3 p4 p5 p6 p7 p8 p9 p10:Prop}{l:List Prop}(h0:p0)(h1:p1)(h2:p2)(h3:p3)(h4:p4)(h5:p5)(h6:p6)(h7:p7)(h8:p8)(h9:p9)(h10:p10)(t:∀q ∈ l,q):∀q ∈ p0::p1::p2::p3::p4::p5::p6::p7::p8::p9::p10::l,q:=oc h0 (oc10 h1 h2 h3 h4 h5 h6 h7 h8 h9 h10 t)
theorem oc12{p0 p1 p2 p3 p4 p5 p6 p7 p8 p9 p10 p11:Prop}{l:List Prop}(h0:p0)(h1:p1)(h2:p2)(h3:p3)(h4:p4)(h5:p5)(h6:p6)(h7:p7)(h8:p8)(h9:p9)(h10:p10)(h11:p11)(t:∀q ∈ l,q):∀q ∈ p0::p1::p2::p3::p4::p5::p6::p7::p8::p9::p10::p11::l,q:=oc h0 (oc11 h1 h2 h3 h4 h5 h6 h7 h8 h9 h10 h11 t)
theorem cE{α:Type}{C:Prop}{b:Bool}{x y:Option α}{r:α}(h:cond b x y=some r)(f:b=true→x=some r→C)(g:b=false→y=some r→C):C:=(zJg h).elim (fun h=>f h.1 h.2) fun h=>g h.1 h.2
theorem bE{α β:Type}{C:Prop}{o:Option α}{f:α→Option β}{r:β}(h:Option.bind o f=some r)(g:∀a,o=some a→f a=some r→C):C:=(zJe h).elim fun a h=>g a h.1 h.2
theorem iE{α:Type}{C p:Prop} [Decidable p]{x:Option α}{r:α}(h:(if p then x else none)=some r)(g:p→x=some r→C):C:=(zJk h).elim g
theorem nE{α:Type}{C:Prop}{r:α}(h:none=some r):C:=nomatch h
noncomputable def I168:Info:= { body:=(Tryz.f168.body).getD .skip,nt:=33,results:= [.tmp 2],keep:= [0,4,1],live:= [],modes:= [],ext:= [0] }
theorem vFo:FnOk Tryz.prog 168 Tryz.f168 I168:=⟨Tryz.func168,by kernel_rfl,by kernel_rfl,by kernel_rfl,by kernel_rfl⟩
abbrev xVc(v0:Int):=xorI .u64 (xorI .u64 (xorI .u64 v0 (IntKind.u64.wrap (v0*2 ^ (tN 13)))) (Int.fdiv (xorI .u64 v0 (IntKind.u64.wrap (v0*2 ^ (tN 13)))) ((2:Int) ^ (tN 7)))) (IntKind.u64.wrap ((xorI .u64 (xorI .u64 v0 (IntKind.u64.wrap (v0*2 ^ (tN 13)))) (Int.fdiv (xorI .u64 v0 (IntKind.u64.wrap (v0*2 ^ (tN 13)))) ((2:Int) ^ (tN 7))))*2 ^ (tN 17)))
def xYk(a0:Int):rE I168 (xEx a0) [] []=dn (xDe ((xVc a0),(xVc a0))) [(0:Int)≤13∧(13:Int)<64,(0:Int)≤7∧(7:Int)<64,(0:Int)≤17∧(17:Int)<64]:=by kernel_rfl
theorem vE9{N:Nat}:∀a0 r,xFW N a0=some r→RE Tryz.f168 I168 (xEx a0) (xDe r):=fun a0 r h =>
 dE h vFo (xYk a0) (oc3 (by decide) (by decide) (by decide) on)
theorem xI9{N:Nat}{a0:Int}{r:Int × Int}(h:xFW N  a0=some r):AbC 168 (xEx a0) (xDe r) :=
 AbsCalls.of_reach vFo rfl rfl rfl (Nat.le_of_ble_eq_true rfl) (vE9 a0 r h)
theorem xNJ{N:Nat}{a0 r:Int}(h:xK9 N a0=some r):AbC 106 (xLl a0) (xJe r) :=
 zII (xPG Tryz.lays125) (Any.bits_Len Tryz.lays125) h
noncomputable def I167:Info:= { body:=(Tryz.f167.body).getD .skip,nt:=10,results:= [.tmp 2],keep:= [0,4,6],live:= [],modes:= [(2, [(0, .take,false)])] }
theorem vFn:FnOk Tryz.prog 167 Tryz.f167 I167:=⟨Tryz.func167,by kernel_rfl,by kernel_rfl,by kernel_rfl,by kernel_rfl⟩
def xYj(a0 r1:Int):rE I167 (xFy a0) [] [xJe r1]=dn (xEd (IntKind.u64.wrap (1*2 ^ (tN (IntKind.u64.wrap (r1)))))) [AbC 106 (xLl (IntKind.u64.wrap (a0))) (xJe r1),(0:Int)≤(IntKind.u64.wrap (r1))∧(IntKind.u64.wrap (r1))<64]:=by kernel_rfl
theorem vE8{N:Nat}:∀a0 r,xFq N a0=some r→RE Tryz.f167 I167 (xFy a0) (xEd r):=fun a0 r h =>
 bE h fun r1 h0 h=>iE h fun h1 h=>dE h vFn (xYj a0 r1) (oc2 (xNJ h0) h1 on)
theorem xLr{N:Nat}{a0:Int}{r:Int}(h:xFq N  a0=some r):AbC 167 (xFy a0) (xEd r) :=
 AbsCalls.of_reach vFn rfl rfl rfl (Nat.le_of_ble_eq_true rfl) (vE8 a0 r h)
theorem xAp{N:Nat}{a0 a1:Int}{a2 r:List Org}(h:xAo N a0 a1 a2=some r):AbC 141 (xAy a0 a1 a2) (xAg r) :=
 zJh (run_callFunc_extern Tryz.func141 (by kernel_rfl) (by kernel_rfl) (by kernel_rfl) (by kernel_rfl)) 80 _ (Option.some_get (by kernel_rfl:(Tryz.prog.info? 80).isSome=true)).symm (by kernel_rfl) Tryz.isAgg80 h
noncomputable def xKa:Info:= { body:=(Tryz.f148.body).getD .skip,nt:=23,results:= [],keep:= [0,2,4,6,12,14,26,2000006,7,2000007],live:= [(3, [6,12,14,2000006,7,2000007])],modes:= [],ext:= [1000003] }
theorem xMv:FnOk Tryz.prog 148 Tryz.f148 xKa:=⟨Tryz.func148,by kernel_rfl,by kernel_rfl,by kernel_rfl,by kernel_rfl⟩
def xKH(x6 x7:Int)(b1000003:List Org):St:= [(6, .v false [.ptr 3 0]),(12, .v false [.int .i64 x6]),(14, .v false [.int .i64 x7]),(7, .v true [.clo 64 [1000003], .swp 141 0 (.pointer (some ⟨0,80,none⟩)) 1000003]),(2000007, .v true [.sl (.lnt 0) .org b1000003])]
abbrev xGw(v0 v1:Int):Prop:=iY (dc (v0<v1))
abbrev xRr(v0 v1:Int)(v2:List Org)(v3:(List Org)):Prop:=AbC 141 (xAy v0 v1 v2) (xAg v3)
def xR4(x6 x7:Int)(b1000003:List Org)(r1:(List Org)):rS 3 xKa (xKH x6 x7 b1000003) [Y] [xAg r1]=st 3 xKa (xKH (W (x6+1)) (W (x7 - 1)) r1) [xGw x6 x7,xRr x6 x7 b1000003 r1,2≤Ln b1000003,Ln r1=Ln b1000003]:=by kernel_rfl
abbrev xJg(v0 v1:Int):Prop:=iN (dc (v0<v1))
def xR5(x6 x7:Int)(b1000003:List Org):rS 3 xKa (xKH x6 x7 b1000003) [F] []=dn (xBy b1000003) [xJg x6 x7]:=by kernel_rfl
def xR6(a0 a1:Int)(a2:List Org):rE xKa (xCs a0 a1 a2) [] []=st 3 xKa (xKH a0 (W (a1 - 1)) a2) []:=by kernel_rfl
theorem xUq{N:Nat}:∀n x6 x7 b1000003 r,xBx N n x6 x7 b1000003=some r→RS Tryz.f148 xKa 3 (xKH x6 x7 b1000003) (xBy r):=by
 intro n
 induction n with
 |zero=>exact fun _ _ _ _ h=>nE h
 |succ n ih =>
  exact fun x6 x7 b1000003 r h =>
   cE h (fun h0 h=>bE h fun r1 h1 h=>iE h fun h2 h=>iE h fun h3 h=>tS xMv (xR4 x6 x7 b1000003 r1) (oc4 h0 (xAp h1) h2 h3 on) (ih _ _ _ _ h)) fun h0 h =>
   dS h xMv (xR5 x6 x7 b1000003) (oc h0 on)
theorem xUr{N:Nat}:∀a0 a1 a2 r,xB8 N a0 a1 a2=some r→RE Tryz.f148 xKa (xCs a0 a1 a2) (xBy r):=fun a0 a1 a2 r h =>
 tE xMv (xR6 a0 a1 a2) on (xUq _ _ _ _ _ h)
theorem xGW{N:Nat}{a0:Int}{a1:Int}{a2:List Org}{r:(List Org)}(h:xB8 N  a0 a1 a2=some r):AbC 148 (xCs a0 a1 a2) (xBy r) :=
 AbsCalls.of_reach xMv rfl rfl rfl (Nat.le_of_ble_eq_true rfl) (xUr a0 a1 a2 r h)
noncomputable def xH6:Info:= { body:=(Tryz.f146.body).getD .skip,nt:=54,results:= [],keep:= [0,2,4,6,12,14,16,18,20,30,66,86,2000006,7,15,2000007],live:= [(6, [2,6,12,14,16,18,2000006,7,15,2000007])],modes:= [(8, [(1, .take,false)])],ext:= [1000003] }
theorem xKM:FnOk Tryz.prog 146 Tryz.f146 xH6:=⟨Tryz.func146,by kernel_rfl,by kernel_rfl,by kernel_rfl,by kernel_rfl⟩
def xIB(x1 x6 x8 x9 b7:Int)(b1000003:List Org):St:= [(2, .v false [.int .i64 x1]),(6, .v false [.ptr 3 0]),(12, .v false [.int .i64 x6]),(14, .v false [.ptr 7 0]),(16, .v false [.int .u64 x8]),(18, .v false [.int .i64 x9]),(7, .v true [.clo 64 [1000003], .swp 141 0 (.pointer (some ⟨0,80,none⟩)) 1000003]),(15, .v true [.int .u64 b7]),(2000007, .v true [.sl (.lnt 0) .org b1000003])]
abbrev xSW(v0 v1 v2:Int):=dc (v0≤(W ((W (v1+(W ((W (Int.tdiv v2 4))*2))))+1)))
abbrev xPX(v0:Int × Int)(v1:Int):=W ((andI .u64 v0.1 (IntKind.u64.wrap (v1 - 1))))
def xRQ(x1 x6 x8 x9 b7:Int)(b1000003:List Org)(r1:Int × Int)(r2:(List Org)):rS 6 xH6 (xIB x1 x6 x8 x9 b7 b1000003) [Y,Y] [xDe r1,xAg r2]=st 6 xH6 (xIB x1 x6 x8 (W (x9+1)) r1.2 r2) [4≠(0:Int),iY (xSW x9 x1 x6),AbC 168 (xEx b7) (xDe r1),iY (dc (((xPX r1 x8):Int)≥x6)),AbC 141 (xAy x9 (W (x1+(W ((xPX r1 x8) - x6)))) b1000003) (xAg r2),2≤Ln b1000003,Ln r2=Ln b1000003]:=by kernel_rfl
def xRR(x1 x6 x8 x9 b7:Int)(b1000003:List Org)(r1:Int × Int)(r2:(List Org)):rS 6 xH6 (xIB x1 x6 x8 x9 b7 b1000003) [Y,F] [xDe r1,xAg r2]=st 6 xH6 (xIB x1 x6 x8 (W (x9+1)) r1.2 r2) [4≠(0:Int),iY (xSW x9 x1 x6),AbC 168 (xEx b7) (xDe r1),iN (dc (((xPX r1 x8):Int)≥x6)),AbC 141 (xAy x9 (W (x1+(xPX r1 x8))) b1000003) (xAg r2),2≤Ln b1000003,Ln r2=Ln b1000003]:=by kernel_rfl
def xRS(x1 x6 x8 x9 b7:Int)(b1000003:List Org):rS 6 xH6 (xIB x1 x6 x8 x9 b7 b1000003) [F] []=dn (xBb b1000003) [4≠(0:Int),iN (xSW x9 x1 x6)]:=by kernel_rfl
abbrev xTm(v0 v1:Int):Prop:=iY (dc ((W (v0 - v1))≥8))
abbrev xNf(v0 v1:Int):=W (v0+(W ((W (Int.tdiv (W (v1 - v0)) 4))*2)))
def xRT(a0 a1:Int)(a2:List Org)(r1:Int):rE xH6 (xBU a0 a1 a2) [Y] [xEd r1]=st 6 xH6 (xIB a0 (W (a1 - a0)) r1 (W ((xNf a0 a1) - 1)) (IntKind.u64.wrap ((W (a1 - a0)))) a2) [xTm a1 a0,AbC 167 (xFy (W (a1 - a0))) (xEd r1),4≠(0:Int)]:=by kernel_rfl
def xRU(a0 a1:Int)(a2:List Org):rE xH6 (xBU a0 a1 a2) [F] []=dn (xBb a2) [iN (dc ((W (a1 - a0))≥8))]:=by kernel_rfl
theorem xUn{N:Nat}:∀n x1 x6 x8 x9 b7 b1000003 r,xBa N n x1 x6 x8 x9 b7 b1000003=some r→RS Tryz.f146 xH6 6 (xIB x1 x6 x8 x9 b7 b1000003) (xBb r):=by
 intro n
 induction n with
 |zero=>exact fun _ _ _ _ _ _ _ h=>nE h
 |succ n ih =>
  exact fun x1 x6 x8 x9 b7 b1000003 r h =>
   cE h (fun h1 h=>bE h fun r1 h2 h=>cE h (fun h3 h=>bE h fun r2 h4 h=>iE h fun h5 h=>iE h fun h6 h=>tS xKM (xRQ x1 x6 x8 x9 b7 b1000003 r1 r2) (oc7 (by decide) h1 (xI9 h2) h3 (xAp h4) h5 h6 on) (ih _ _ _ _ _ _ _ h)) fun h3 h =>
   bE h fun r2 h4 h=>iE h fun h5 h=>iE h fun h6 h=>tS xKM (xRR x1 x6 x8 x9 b7 b1000003 r1 r2) (oc7 (by decide) h1 (xI9 h2) h3 (xAp h4) h5 h6 on) (ih _ _ _ _ _ _ _ h)) fun h1 h =>
   dS h xKM (xRS x1 x6 x8 x9 b7 b1000003) (oc2 (by decide) h1 on)
theorem xUo{N:Nat}:∀a0 a1 a2 r,xB3 N a0 a1 a2=some r→RE Tryz.f146 xH6 (xBU a0 a1 a2) (xBb r):=fun a0 a1 a2 r h =>
 cE h (fun h0 h=>bE h fun r1 h1 h=>tE xKM (xRT a0 a1 a2 r1) (oc3 h0 (xLr h1) (by decide) on) (xUn _ _ _ _ _ _ _ _ h)) fun h0 h =>
 dE h xKM (xRU a0 a1 a2) (oc h0 on)
theorem xGJ{N:Nat}{a0:Int}{a1:Int}{a2:List Org}{r:(List Org)}(h:xB3 N  a0 a1 a2=some r):AbC 146 (xBU a0 a1 a2) (xBb r) :=
 AbsCalls.of_reach xKM rfl rfl rfl (Nat.le_of_ble_eq_true rfl) (xUo a0 a1 a2 r h)
noncomputable def I65:Info:= { body:=(Tryz.f65.body).getD .skip,nt:=24,results:= [.tmp 4],keep:= [0,2,4,6,8,5,7],live:= [],modes:= [(1, [(5, .take,false),(11, .take,false)])] }
theorem fk65:FnOk Tryz.prog 65 Tryz.f65 I65:=⟨Tryz.func65,by kernel_rfl,by kernel_rfl,by kernel_rfl,by kernel_rfl⟩
def vC8(a0 a1:Org):rE I65 (xC4 a0 a1) [Y] []=dn (xCb true) [iY (dc ((Org.cell a0)<(Org.cell a1)))]:=by kernel_rfl
abbrev xWE(v0 v1:Org):Prop:=iN (dc ((Org.cell v0)<(Org.cell v1)))
def vC9(a0 a1:Org):rE I65 (xC4 a0 a1) [F,Y] []=dn (xCb (dc ((Org.row a0)<(Org.row a1)))) [xWE a0 a1,iY ((Org.cell a0)==(Org.cell a1))]:=by kernel_rfl
def vDa(a0 a1:Org):rE I65 (xC4 a0 a1) [F,F] []=dn (xCb false) [xWE a0 a1,iN ((Org.cell a0)==(Org.cell a1))]:=by kernel_rfl
theorem vGP{N:Nat}:∀a0 a1 r,xEh N a0 a1=some r→RE Tryz.f65 I65 (xC4 a0 a1) (xCb r):=fun a0 a1 r h =>
 cE h (fun h0 h=>dE h fk65 (vC8 a0 a1) (oc h0 on)) fun h0 h =>
 cE h (fun h1 h=>dE h fk65 (vC9 a0 a1) (oc2 h0 h1 on)) fun h1 h =>
 dE h fk65 (vDa a0 a1) (oc2 h0 h1 on)
theorem xHu{N:Nat}{a0:Org}{a1:Org}{r:Bool}(h:xEh N  a0 a1=some r):AbC 65 (xC4 a0 a1) (xCb r) :=
 AbsCalls.of_reach fk65 rfl rfl rfl (Nat.le_of_ble_eq_true rfl) (vGP a0 a1 r h)
noncomputable def xPB:Info:= { body:=(Tryz.f64.body).getD .skip,nt:=15,results:= [.tmp 5],keep:= [0,2,4,10,5],live:= [],modes:= [],ext:= [2] }
theorem xRn:FnOk Tryz.prog 64 Tryz.f64 xPB:=⟨Tryz.func64,by kernel_rfl,by kernel_rfl,by kernel_rfl,by kernel_rfl⟩
abbrev xEp(v0:Int)(v1:List Org):Prop:=(0:Int)≤v0∧v0<(Ln v1)
abbrev xFo(v0:List Org)(v1:Int):=gD v0 (tN v1) Ty.org.dflt
def xR9(a0 a1:Int)(a2:List Org)(r1:Bool):rE xPB (xBn a0 a1 a2) [] [xCb r1]=dn (xAl (r1,a2)) [xEp a0 a2,xEp a1 a2,AbC 65 (xC4 (xFo a2 a0) (xFo a2 a1)) (xCb r1)]:=by kernel_rfl
theorem xUv{N:Nat}:∀a0 a1 a2 r,xAR N a0 a1 a2=some r→RE Tryz.f64 xPB (xBn a0 a1 a2) (xAl r):=fun a0 a1 a2 r h =>
 iE h fun h0 h=>iE h fun h1 h=>bE h fun r1 h2 h=>dE h xRn (xR9 a0 a1 a2 r1) (oc3 h0 h1 (xHu h2) on)
theorem xAq{N:Nat}{a0:Int}{a1:Int}{a2:List Org}{r:Bool × (List Org)}(h:xAR N  a0 a1 a2=some r):AbC 64 (xBn a0 a1 a2) (xAl r) :=
 AbsCalls.of_reach xRn rfl rfl rfl (Nat.le_of_ble_eq_true rfl) (xUv a0 a1 a2 r h)
noncomputable def xBX:Info:= { body:=(Tryz.f151.body).getD .skip,nt:=107,results:= [.tmp 8, .tmp 9],keep:= [0,2,4,6,8,16,18,20,22,60,86,96,146,172,182,2000008,9,2000009],live:= [(3, [2,8,20,22,2000008,9,2000009]),(5, [2,8,20,22,2000008,9,2000009]),(13, [2,8,20,22,2000008,9,2000009]),(15, [2,8,20,22,2000008,9,2000009])],modes:= [(3, [(3, .take,false)]),(5, [(3, .take,false)]),(13, [(3, .take,false)]),(15, [(3, .take,false)])],ext:= [1000004] }
theorem xDs:FnOk Tryz.prog 151 Tryz.f151 xBX:=⟨Tryz.func151,by kernel_rfl,by kernel_rfl,by kernel_rfl,by kernel_rfl⟩
def xIz(x1 x10 x11:Int)(b1000004:List Org):St:= [(2, .v false [.int .i64 x1]),(8, .v false [.ptr 4 0]),(20, .v false [.int .i64 x10]),(22, .v false [.int .i64 x11]),(9, .v true [.clo 64 [1000004], .swp 141 0 (.pointer (some ⟨0,80,none⟩)) 1000004]),(2000009, .v true [.sl (.lnt 0) .org b1000004])]
def xGp(x1 x10 x11:Int)(b1000004:List Org):St:= [(2, .v false [.int .i64 x1]),(8, .v false [.ptr 4 0]),(20, .v false [.int .i64 x10]),(22, .v false [.int .i64 x11]),(9, .v true [.clo 64 [1000004], .swp 141 0 (.pointer (some ⟨0,80,none⟩)) 1000004]),(2000009, .v true [.sl (.lnt 0) .org b1000004])]
def xEY(x1 x10 x11:Int)(b1000004:List Org):St:= [(2, .v false [.int .i64 x1]),(8, .v false [.ptr 4 0]),(20, .v false [.int .i64 x10]),(22, .v false [.int .i64 x11]),(9, .v true [.clo 64 [1000004], .swp 141 0 (.pointer (some ⟨0,80,none⟩)) 1000004]),(2000009, .v true [.sl (.lnt 0) .org b1000004])]
def xFP(x1 x10 x11:Int)(b1000004:List Org):St:= [(2, .v false [.int .i64 x1]),(8, .v false [.ptr 4 0]),(20, .v false [.int .i64 x10]),(22, .v false [.int .i64 x11]),(9, .v true [.clo 64 [1000004], .swp 141 0 (.pointer (some ⟨0,80,none⟩)) 1000004]),(2000009, .v true [.sl (.lnt 0) .org b1000004])]
abbrev xLY(v0 v1:Int):Prop:=iY (dc (v0≤v1))
abbrev xLD(v0 v1:Int)(v2:List Org)(v3:Bool × (List Org)):Prop:=AbC 64 (xBn v0 v1 v2) (xAl v3)
def xO1(x1 x10 x11:Int)(b1000004:List Org)(r1:Bool × (List Org)):rS 15 xBX (xFP x1 x10 x11 b1000004) [Y,Y] [xAl r1]=st 15 xBX (xFP x1 x10 (W (x11 - 1)) r1.2) [xLY x10 x11,xLD x11 x1 b1000004 r1,iY (!r1.1)]:=by kernel_rfl
def xO2(x1 x10 x11:Int)(b1000004:List Org)(r1:Bool × (List Org))(r2:(List Org)):rS 15 xBX (xFP x1 x10 x11 b1000004) [Y,F,Y] [xAl r1,xAg r2]=dn (xAz (x11,false,r2)) [xLY x10 x11,xLD x11 x1 b1000004 r1,iN (!r1.1),iY (dc (x10>x11)),AbC 141 (xAy x11 x1 r1.2) (xAg r2),2≤Ln r1.2,Ln r2=Ln r1.2]:=by kernel_rfl
def xO3(x1 x10 x11:Int)(b1000004:List Org)(r1:Bool × (List Org))(r2:(List Org)):rS 15 xBX (xFP x1 x10 x11 b1000004) [Y,F,F] [xAl r1,xAg r2]=st 13 xBX (xEY x1 (W (x10+1)) (W (x11 - 1)) r2) [xLY x10 x11,xLD x11 x1 b1000004 r1,iN (!r1.1),iN (dc (x10>x11)),AbC 141 (xAy x10 x11 r1.2) (xAg r2),2≤Ln r1.2,Ln r2=Ln r1.2]:=by kernel_rfl
abbrev xOX(v0 v1:Int):Prop:=iN (dc (v0≤v1))
def xO4(x1 x10 x11:Int)(b1000004:List Org)(r1:(List Org)):rS 15 xBX (xFP x1 x10 x11 b1000004) [F,F,Y] [xAg r1]=dn (xAz (x11,false,r1)) [xOX x10 x11,iN false,iY (dc (x10>x11)),xRr x11 x1 b1000004 r1,2≤Ln b1000004,Ln r1=Ln b1000004]:=by kernel_rfl
def xO5(x1 x10 x11:Int)(b1000004:List Org)(r1:(List Org)):rS 15 xBX (xFP x1 x10 x11 b1000004) [F,F,F] [xAg r1]=st 13 xBX (xEY x1 (W (x10+1)) (W (x11 - 1)) r1) [xOX x10 x11,iN false,iN (dc (x10>x11)),xRr x10 x11 b1000004 r1,2≤Ln b1000004,Ln r1=Ln b1000004]:=by kernel_rfl
def xOY(x1 x10 x11:Int)(b1000004:List Org)(r1:Bool × (List Org)):rS 13 xBX (xEY x1 x10 x11 b1000004) [Y,Y] [xAl r1]=st 13 xBX (xEY x1 (W (x10+1)) x11 r1.2) [xLY x10 x11,xLD x10 x1 b1000004 r1,iY r1.1]:=by kernel_rfl
def xOZ(x1 x10 x11:Int)(b1000004:List Org)(r1:Bool × (List Org)):rS 13 xBX (xEY x1 x10 x11 b1000004) [Y,F] [xAl r1]=st 15 xBX (xFP x1 x10 x11 r1.2) [xLY x10 x11,xLD x10 x1 b1000004 r1,iN r1.1]:=by kernel_rfl
def xO0(x1 x10 x11:Int)(b1000004:List Org):rS 13 xBX (xEY x1 x10 x11 b1000004) [F,F] []=st 15 xBX (xFP x1 x10 x11 b1000004) [xOX x10 x11,iN false]:=by kernel_rfl
def xQp(x1 x10 x11:Int)(b1000004:List Org)(r1:Bool × (List Org)):rS 5 xBX (xGp x1 x10 x11 b1000004) [Y,Y] [xAl r1]=st 5 xBX (xGp x1 x10 (W (x11 - 1)) r1.2) [xLY x10 x11,xLD x11 x1 b1000004 r1,iY (!r1.1)]:=by kernel_rfl
def xQq(x1 x10 x11:Int)(b1000004:List Org)(r1:Bool × (List Org))(r2:(List Org)):rS 5 xBX (xGp x1 x10 x11 b1000004) [Y,F,Y] [xAl r1,xAg r2]=dn (xAz (x11,true,r2)) [xLY x10 x11,xLD x11 x1 b1000004 r1,iN (!r1.1),iY (dc (x10>x11)),AbC 141 (xAy x11 x1 r1.2) (xAg r2),2≤Ln r1.2,Ln r2=Ln r1.2]:=by kernel_rfl
def xO9(x1 x10 x11:Int)(b1000004:List Org)(r1:Bool × (List Org))(r2:(List Org)):rS 5 xBX (xGp x1 x10 x11 b1000004) [Y,F,F] [xAl r1,xAg r2]=st 13 xBX (xEY x1 (W (x10+1)) (W (x11 - 1)) r2) [xLY x10 x11,xLD x11 x1 b1000004 r1,iN (!r1.1),iN (dc (x10>x11)),AbC 141 (xAy x10 x11 r1.2) (xAg r2),2≤Ln r1.2,Ln r2=Ln r1.2]:=by kernel_rfl
def xPa(x1 x10 x11:Int)(b1000004:List Org)(r1:(List Org)):rS 5 xBX (xGp x1 x10 x11 b1000004) [F,F,Y] [xAg r1]=dn (xAz (x11,true,r1)) [xOX x10 x11,iN false,iY (dc (x10>x11)),xRr x11 x1 b1000004 r1,2≤Ln b1000004,Ln r1=Ln b1000004]:=by kernel_rfl
def xPb(x1 x10 x11:Int)(b1000004:List Org)(r1:(List Org)):rS 5 xBX (xGp x1 x10 x11 b1000004) [F,F,F] [xAg r1]=st 13 xBX (xEY x1 (W (x10+1)) (W (x11 - 1)) r1) [xOX x10 x11,iN false,iN (dc (x10>x11)),xRr x10 x11 b1000004 r1,2≤Ln b1000004,Ln r1=Ln b1000004]:=by kernel_rfl
def xO6(x1 x10 x11:Int)(b1000004:List Org)(r1:Bool × (List Org)):rS 3 xBX (xIz x1 x10 x11 b1000004) [Y,Y] [xAl r1]=st 3 xBX (xIz x1 (W (x10+1)) x11 r1.2) [xLY x10 x11,xLD x10 x1 b1000004 r1,iY r1.1]:=by kernel_rfl
def xO7(x1 x10 x11:Int)(b1000004:List Org)(r1:Bool × (List Org)):rS 3 xBX (xIz x1 x10 x11 b1000004) [Y,F] [xAl r1]=st 5 xBX (xGp x1 x10 x11 r1.2) [xLY x10 x11,xLD x10 x1 b1000004 r1,iN r1.1]:=by kernel_rfl
def xO8(x1 x10 x11:Int)(b1000004:List Org):rS 3 xBX (xIz x1 x10 x11 b1000004) [F,F] []=st 5 xBX (xGp x1 x10 x11 b1000004) [xOX x10 x11,iN false]:=by kernel_rfl
def xPc(a0 a1 a2:Int)(a3:List Org)(r1:(List Org)):rE xBX (xB7 a0 a1 a2 a3) [] [xAg r1]=st 3 xBX (xIz a0 (W (a0+1)) (W (a1 - 1)) r1) [xRr a0 a2 a3 r1,2≤Ln a3,Ln r1=Ln a3]:=by kernel_rfl
theorem xNw{N:Nat}{k13:Int→Int→Int→(List Org)→Option (Int × Bool × (List Org))}(hk13:∀z0 z1 z2 z3 r,k13 z0 z1 z2 z3=some r→RS Tryz.f151 xBX 13 (xEY z0 z1 z2 z3) (xAz r)):∀n x1 x10 x11 b1000004 r,xA5 N k13 n x1 x10 x11 b1000004=some r→RS Tryz.f151 xBX 15 (xFP x1 x10 x11 b1000004) (xAz r):=by
 intro n
 induction n with
 |zero=>exact fun _ _ _ _ _ h=>nE h
 |succ n ih =>
  exact fun x1 x10 x11 b1000004 r h =>
   cE h (fun h0 h=>bE h fun r1 h1 h=>cE h (fun h2 h=>tS xDs (xO1 x1 x10 x11 b1000004 r1) (oc3 h0 (xAq h1) h2 on) (ih _ _ _ _ _ h)) fun h2 h =>
   cE h (fun h3 h=>bE h fun r2 h4 h=>iE h fun h5 h=>iE h fun h6 h=>dS h xDs (xO2 x1 x10 x11 b1000004 r1 r2) (oc7 h0 (xAq h1) h2 h3 (xAp h4) h5 h6 on)) fun h3 h =>
   bE h fun r2 h4 h=>iE h fun h5 h=>iE h fun h6 h=>tS xDs (xO3 x1 x10 x11 b1000004 r1 r2) (oc7 h0 (xAq h1) h2 h3 (xAp h4) h5 h6 on) (hk13 _ _ _ _ _ h)) fun h0 h =>
   cE h (fun h2 h=>bE h fun r1 h3 h=>iE h fun h4 h=>iE h fun h5 h=>dS h xDs (xO4 x1 x10 x11 b1000004 r1) (oc6 h0 rfl h2 (xAp h3) h4 h5 on)) fun h2 h =>
   bE h fun r1 h3 h=>iE h fun h4 h=>iE h fun h5 h=>tS xDs (xO5 x1 x10 x11 b1000004 r1) (oc6 h0 rfl h2 (xAp h3) h4 h5 on) (hk13 _ _ _ _ _ h)
theorem xNv{N:Nat}:∀n x1 x10 x11 b1000004 r,xAO N n x1 x10 x11 b1000004=some r→RS Tryz.f151 xBX 13 (xEY x1 x10 x11 b1000004) (xAz r):=by
 intro n
 induction n with
 |zero=>exact fun _ _ _ _ _ h=>nE h
 |succ n ih =>
  exact fun x1 x10 x11 b1000004 r h =>
   cE h (fun h0 h=>bE h fun r1 h1 h=>cE h (fun h2 h=>tS xDs (xOY x1 x10 x11 b1000004 r1) (oc3 h0 (xAq h1) h2 on) (ih _ _ _ _ _ h)) fun h2 h =>
   tS xDs (xOZ x1 x10 x11 b1000004 r1) (oc3 h0 (xAq h1) h2 on) (xNw ih _ _ _ _ _ _ h)) fun h0 h =>
   tS xDs (xO0 x1 x10 x11 b1000004) (oc2 h0 rfl on) (xNw ih _ _ _ _ _ _ h)
theorem xNW{N:Nat}:∀n x1 x10 x11 b1000004 r,xA9 N n x1 x10 x11 b1000004=some r→RS Tryz.f151 xBX 5 (xGp x1 x10 x11 b1000004) (xAz r):=by
 intro n
 induction n with
 |zero=>exact fun _ _ _ _ _ h=>nE h
 |succ n ih =>
  exact fun x1 x10 x11 b1000004 r h =>
   cE h (fun h0 h=>bE h fun r1 h1 h=>cE h (fun h2 h=>tS xDs (xQp x1 x10 x11 b1000004 r1) (oc3 h0 (xAq h1) h2 on) (ih _ _ _ _ _ h)) fun h2 h =>
   cE h (fun h3 h=>bE h fun r2 h4 h=>iE h fun h5 h=>iE h fun h6 h=>dS h xDs (xQq x1 x10 x11 b1000004 r1 r2) (oc7 h0 (xAq h1) h2 h3 (xAp h4) h5 h6 on)) fun h3 h =>
   bE h fun r2 h4 h=>iE h fun h5 h=>iE h fun h6 h=>tS xDs (xO9 x1 x10 x11 b1000004 r1 r2) (oc7 h0 (xAq h1) h2 h3 (xAp h4) h5 h6 on) (xNv _ _ _ _ _ _ h)) fun h0 h =>
   cE h (fun h2 h=>bE h fun r1 h3 h=>iE h fun h4 h=>iE h fun h5 h=>dS h xDs (xPa x1 x10 x11 b1000004 r1) (oc6 h0 rfl h2 (xAp h3) h4 h5 on)) fun h2 h =>
   bE h fun r1 h3 h=>iE h fun h4 h=>iE h fun h5 h=>tS xDs (xPb x1 x10 x11 b1000004 r1) (oc6 h0 rfl h2 (xAp h3) h4 h5 on) (xNv _ _ _ _ _ _ h)
theorem xSw{N:Nat}:∀n x1 x10 x11 b1000004 r,xBH N n x1 x10 x11 b1000004=some r→RS Tryz.f151 xBX 3 (xIz x1 x10 x11 b1000004) (xAz r):=by
 intro n
 induction n with
 |zero=>exact fun _ _ _ _ _ h=>nE h
 |succ n ih =>
  exact fun x1 x10 x11 b1000004 r h =>
   cE h (fun h0 h=>bE h fun r1 h1 h=>cE h (fun h2 h=>tS xDs (xO6 x1 x10 x11 b1000004 r1) (oc3 h0 (xAq h1) h2 on) (ih _ _ _ _ _ h)) fun h2 h =>
   tS xDs (xO7 x1 x10 x11 b1000004 r1) (oc3 h0 (xAq h1) h2 on) (xNW _ _ _ _ _ _ h)) fun h0 h =>
   tS xDs (xO8 x1 x10 x11 b1000004) (oc2 h0 rfl on) (xNW _ _ _ _ _ _ h)
theorem xSx{N:Nat}:∀a0 a1 a2 a3 r,xCp N a0 a1 a2 a3=some r→RE Tryz.f151 xBX (xB7 a0 a1 a2 a3) (xAz r):=fun a0 a1 a2 a3 r h =>
 bE h fun r1 h0 h=>iE h fun h1 h=>iE h fun h2 h=>tE xDs (xPc a0 a1 a2 a3 r1) (oc3 (xAp h0) h1 h2 on) (xSw _ _ _ _ _ _ h)
theorem xEH{N:Nat}{a0:Int}{a1:Int}{a2:Int}{a3:List Org}{r:Int × Bool × (List Org)}(h:xCp N  a0 a1 a2 a3=some r):AbC 151 (xB7 a0 a1 a2 a3) (xAz r) :=
 AbsCalls.of_reach xDs rfl rfl rfl (Nat.le_of_ble_eq_true rfl) (xSx a0 a1 a2 a3 r h)
noncomputable def xDt:Info:= { body:=(Tryz.f150.body).getD .skip,nt:=58,results:= [.tmp 8],keep:= [0,2,4,6,8,16,18,20,60,84,94,2000008,9,2000009],live:= [(3, [2,8,18,20,2000008,9,2000009]),(5, [2,8,18,20,2000008,9,2000009])],modes:= [(3, [(3, .take,false)]),(5, [(3, .take,false)])],ext:= [1000004] }
theorem xGN:FnOk Tryz.prog 150 Tryz.f150 xDt:=⟨Tryz.func150,by kernel_rfl,by kernel_rfl,by kernel_rfl,by kernel_rfl⟩
def xGn(x1 x9 x10:Int)(b1000004:List Org):St:= [(2, .v false [.int .i64 x1]),(8, .v false [.ptr 4 0]),(18, .v false [.int .i64 x9]),(20, .v false [.int .i64 x10]),(9, .v true [.clo 64 [1000004], .swp 141 0 (.pointer (some ⟨0,80,none⟩)) 1000004]),(2000009, .v true [.sl (.lnt 0) .org b1000004])]
def xGo(x1 x9 x10:Int)(b1000004:List Org):St:= [(2, .v false [.int .i64 x1]),(8, .v false [.ptr 4 0]),(18, .v false [.int .i64 x9]),(20, .v false [.int .i64 x10]),(9, .v true [.clo 64 [1000004], .swp 141 0 (.pointer (some ⟨0,80,none⟩)) 1000004]),(2000009, .v true [.sl (.lnt 0) .org b1000004])]
def xQj(x1 x9 x10:Int)(b1000004:List Org)(r1:Bool × (List Org)):rS 5 xDt (xGo x1 x9 x10 b1000004) [Y,Y] [xAl r1]=st 5 xDt (xGo x1 x9 (W (x10 - 1)) r1.2) [xLY x9 x10,xLD x1 x10 b1000004 r1,iY r1.1]:=by kernel_rfl
def xQk(x1 x9 x10:Int)(b1000004:List Org)(r1:Bool × (List Org)):rS 5 xDt (xGo x1 x9 x10 b1000004) [Y,F,Y] [xAl r1]=dn (xAM (x9,r1.2)) [xLY x9 x10,xLD x1 x10 b1000004 r1,iN r1.1,iY (dc (x9>x10))]:=by kernel_rfl
def xQl(x1 x9 x10:Int)(b1000004:List Org)(r1:Bool × (List Org))(r2:(List Org)):rS 5 xDt (xGo x1 x9 x10 b1000004) [Y,F,F] [xAl r1,xAg r2]=st 3 xDt (xGn x1 (W (x9+1)) (W (x10 - 1)) r2) [xLY x9 x10,xLD x1 x10 b1000004 r1,iN r1.1,iN (dc (x9>x10)),AbC 141 (xAy x9 x10 r1.2) (xAg r2),2≤Ln r1.2,Ln r2=Ln r1.2]:=by kernel_rfl
def xQm(x1 x9 x10:Int)(b1000004:List Org):rS 5 xDt (xGo x1 x9 x10 b1000004) [F,F,Y] []=dn (xAM (x9,b1000004)) [xOX x9 x10,iN false,iY (dc (x9>x10))]:=by kernel_rfl
def xQn(x1 x9 x10:Int)(b1000004:List Org)(r1:(List Org)):rS 5 xDt (xGo x1 x9 x10 b1000004) [F,F,F] [xAg r1]=st 3 xDt (xGn x1 (W (x9+1)) (W (x10 - 1)) r1) [xOX x9 x10,iN false,iN (dc (x9>x10)),xRr x9 x10 b1000004 r1,2≤Ln b1000004,Ln r1=Ln b1000004]:=by kernel_rfl
def xQg(x1 x9 x10:Int)(b1000004:List Org)(r1:Bool × (List Org)):rS 3 xDt (xGn x1 x9 x10 b1000004) [Y,Y] [xAl r1]=st 3 xDt (xGn x1 (W (x9+1)) x10 r1.2) [xLY x9 x10,xLD x1 x9 b1000004 r1,iY (!r1.1)]:=by kernel_rfl
def xQh(x1 x9 x10:Int)(b1000004:List Org)(r1:Bool × (List Org)):rS 3 xDt (xGn x1 x9 x10 b1000004) [Y,F] [xAl r1]=st 5 xDt (xGo x1 x9 x10 r1.2) [xLY x9 x10,xLD x1 x9 b1000004 r1,iN (!r1.1)]:=by kernel_rfl
def xQi(x1 x9 x10:Int)(b1000004:List Org):rS 3 xDt (xGn x1 x9 x10 b1000004) [F,F] []=st 5 xDt (xGo x1 x9 x10 b1000004) [xOX x9 x10,iN false]:=by kernel_rfl
def xQo(a0 a1 a2:Int)(a3:List Org)(r1:(List Org)):rE xDt (xCh a0 a1 a2 a3) [] [xAg r1]=st 3 xDt (xGn a0 (W (a0+1)) (W (a1 - 1)) r1) [xRr a0 a2 a3 r1,2≤Ln a3,Ln r1=Ln a3]:=by kernel_rfl
theorem xNV{N:Nat}{k3:Int→Int→Int→(List Org)→Option (Int × (List Org))}(hk3:∀z0 z1 z2 z3 r,k3 z0 z1 z2 z3=some r→RS Tryz.f150 xDt 3 (xGn z0 z1 z2 z3) (xAM r)):∀n x1 x9 x10 b1000004 r,xAW N k3 n x1 x9 x10 b1000004=some r→RS Tryz.f150 xDt 5 (xGo x1 x9 x10 b1000004) (xAM r):=by
 intro n
 induction n with
 |zero=>exact fun _ _ _ _ _ h=>nE h
 |succ n ih =>
  exact fun x1 x9 x10 b1000004 r h =>
   cE h (fun h0 h=>bE h fun r1 h1 h=>cE h (fun h2 h=>tS xGN (xQj x1 x9 x10 b1000004 r1) (oc3 h0 (xAq h1) h2 on) (ih _ _ _ _ _ h)) fun h2 h =>
   cE h (fun h3 h=>dS h xGN (xQk x1 x9 x10 b1000004 r1) (oc4 h0 (xAq h1) h2 h3 on)) fun h3 h =>
   bE h fun r2 h4 h=>iE h fun h5 h=>iE h fun h6 h=>tS xGN (xQl x1 x9 x10 b1000004 r1 r2) (oc7 h0 (xAq h1) h2 h3 (xAp h4) h5 h6 on) (hk3 _ _ _ _ _ h)) fun h0 h =>
   cE h (fun h2 h=>dS h xGN (xQm x1 x9 x10 b1000004) (oc3 h0 rfl h2 on)) fun h2 h =>
   bE h fun r1 h3 h=>iE h fun h4 h=>iE h fun h5 h=>tS xGN (xQn x1 x9 x10 b1000004 r1) (oc6 h0 rfl h2 (xAp h3) h4 h5 on) (hk3 _ _ _ _ _ h)
theorem xSu{N:Nat}:∀n x1 x9 x10 b1000004 r,xAV N n x1 x9 x10 b1000004=some r→RS Tryz.f150 xDt 3 (xGn x1 x9 x10 b1000004) (xAM r):=by
 intro n
 induction n with
 |zero=>exact fun _ _ _ _ _ h=>nE h
 |succ n ih =>
  exact fun x1 x9 x10 b1000004 r h =>
   cE h (fun h0 h=>bE h fun r1 h1 h=>cE h (fun h2 h=>tS xGN (xQg x1 x9 x10 b1000004 r1) (oc3 h0 (xAq h1) h2 on) (ih _ _ _ _ _ h)) fun h2 h =>
   tS xGN (xQh x1 x9 x10 b1000004 r1) (oc3 h0 (xAq h1) h2 on) (xNV ih _ _ _ _ _ _ h)) fun h0 h =>
   tS xGN (xQi x1 x9 x10 b1000004) (oc2 h0 rfl on) (xNV ih _ _ _ _ _ _ h)
theorem xSv{N:Nat}:∀a0 a1 a2 a3 r,xB0 N a0 a1 a2 a3=some r→RE Tryz.f150 xDt (xCh a0 a1 a2 a3) (xAM r):=fun a0 a1 a2 a3 r h =>
 bE h fun r1 h0 h=>iE h fun h1 h=>iE h fun h2 h=>tE xGN (xQo a0 a1 a2 a3 r1) (oc3 (xAp h0) h1 h2 on) (xSu _ _ _ _ _ _ h)
theorem xGx{N:Nat}{a0:Int}{a1:Int}{a2:Int}{a3:List Org}{r:Int × (List Org)}(h:xB0 N  a0 a1 a2 a3=some r):AbC 150 (xCh a0 a1 a2 a3) (xAM r) :=
 AbsCalls.of_reach xGN rfl rfl rfl (Nat.le_of_ble_eq_true rfl) (xSv a0 a1 a2 a3 r h)
noncomputable def xBQ:Info:= { body:=(Tryz.f149.body).getD .skip,nt:=91,results:= [.tmp 6],keep:= [0,2,4,6,12,14,16,18,20,28,56,66,74,94,102,120,140,150,168,2000006,7,2000007],live:= [(3, [2,4,6,14,16,2000006,7,2000007]),(5, [2,4,6,14,16,2000006,7,2000007]),(7, [2,4,6,14,16,2000006,7,2000007]),(14, [2,4,6,14,16,18,2000006,7,2000007]),(18, [2,4,6,14,16,2000006,7,2000007]),(20, [2,4,6,14,16,20,2000006,7,2000007])],modes:= [(5, [(3, .take,false)])],ext:= [1000003] }
theorem xDV:FnOk Tryz.prog 149 Tryz.f149 xBQ:=⟨Tryz.func149,by kernel_rfl,by kernel_rfl,by kernel_rfl,by kernel_rfl⟩
def xFA(x1 x2 x7 x8:Int)(b1000003:List Org):St:= [(2, .v false [.int .i64 x1]),(4, .v false [.int .i64 x2]),(6, .v false [.ptr 3 0]),(14, .v false [.int .i64 x7]),(16, .v false [.int .i64 x8]),(7, .v true [.clo 64 [1000003], .swp 141 0 (.pointer (some ⟨0,80,none⟩)) 1000003]),(2000007, .v true [.sl (.lnt 0) .org b1000003])]
def xJu(x1 x2 x7 x8:Int)(b1000003:List Org):St:= [(2, .v false [.int .i64 x1]),(4, .v false [.int .i64 x2]),(6, .v false [.ptr 3 0]),(14, .v false [.int .i64 x7]),(16, .v false [.int .i64 x8]),(7, .v true [.clo 64 [1000003], .swp 141 0 (.pointer (some ⟨0,80,none⟩)) 1000003]),(2000007, .v true [.sl (.lnt 0) .org b1000003])]
def xIF(x1 x2 x7 x8:Int)(b1000003:List Org):St:= [(2, .v false [.int .i64 x1]),(4, .v false [.int .i64 x2]),(6, .v false [.ptr 3 0]),(14, .v false [.int .i64 x7]),(16, .v false [.int .i64 x8]),(7, .v true [.clo 64 [1000003], .swp 141 0 (.pointer (some ⟨0,80,none⟩)) 1000003]),(2000007, .v true [.sl (.lnt 0) .org b1000003])]
def xIC(x1 x2 x7 x8 x9:Int)(b1000003:List Org):St:= [(2, .v false [.int .i64 x1]),(4, .v false [.int .i64 x2]),(6, .v false [.ptr 3 0]),(14, .v false [.int .i64 x7]),(16, .v false [.int .i64 x8]),(18, .v false [.int .i64 x9]),(7, .v true [.clo 64 [1000003], .swp 141 0 (.pointer (some ⟨0,80,none⟩)) 1000003]),(2000007, .v true [.sl (.lnt 0) .org b1000003])]
def xID(x1 x2 x7 x8:Int)(b1000003:List Org):St:= [(2, .v false [.int .i64 x1]),(4, .v false [.int .i64 x2]),(6, .v false [.ptr 3 0]),(14, .v false [.int .i64 x7]),(16, .v false [.int .i64 x8]),(7, .v true [.clo 64 [1000003], .swp 141 0 (.pointer (some ⟨0,80,none⟩)) 1000003]),(2000007, .v true [.sl (.lnt 0) .org b1000003])]
def xIE(x1 x2 x7 x8 x10:Int)(b1000003:List Org):St:= [(2, .v false [.int .i64 x1]),(4, .v false [.int .i64 x2]),(6, .v false [.ptr 3 0]),(14, .v false [.int .i64 x7]),(16, .v false [.int .i64 x8]),(20, .v false [.int .i64 x10]),(7, .v true [.clo 64 [1000003], .swp 141 0 (.pointer (some ⟨0,80,none⟩)) 1000003]),(2000007, .v true [.sl (.lnt 0) .org b1000003])]
abbrev xRw(v0:Int)(v1:List Org)(v2:Bool × (List Org)):Prop:=AbC 64 (xBn v0 (W (v0 - 1)) v1) (xAl v2)
def xQX(x1 x2 x7 x8 x10:Int)(b1000003:List Org)(r1:Bool × (List Org)):rS 20 xBQ (xIE x1 x2 x7 x8 x10 b1000003) [Y,Y] [xAl r1]=st 3 xBQ (xFA x1 x2 x7 (W (x8+1)) r1.2) [xGw x10 x2,xRw x10 b1000003 r1,iY (!r1.1)]:=by kernel_rfl
def xQY(x1 x2 x7 x8 x10:Int)(b1000003:List Org)(r1:Bool × (List Org))(r2:(List Org)):rS 20 xBQ (xIE x1 x2 x7 x8 x10 b1000003) [Y,F] [xAl r1,xAg r2]=st 20 xBQ (xIE x1 x2 x7 x8 (W (x10+1)) r2) [xGw x10 x2,xRw x10 b1000003 r1,iN (!r1.1),AbC 141 (xAy x10 (W (x10 - 1)) r1.2) (xAg r2),2≤Ln r1.2,Ln r2=Ln r1.2]:=by kernel_rfl
def xQZ(x1 x2 x7 x8 x10:Int)(b1000003:List Org):rS 20 xBQ (xIE x1 x2 x7 x8 x10 b1000003) [F] []=st 3 xBQ (xFA x1 x2 x7 (W (x8+1)) b1000003) [xJg x10 x2]:=by kernel_rfl
def xQV(x1 x2 x7 x8:Int)(b1000003:List Org):rS 18 xBQ (xID x1 x2 x7 x8 b1000003) [Y] []=st 20 xBQ (xIE x1 x2 x7 x8 (W (x7+1)) b1000003) [iY (dc ((W (x2 - x7))≥2))]:=by kernel_rfl
def xQW(x1 x2 x7 x8:Int)(b1000003:List Org):rS 18 xBQ (xID x1 x2 x7 x8 b1000003) [F] []=st 3 xBQ (xFA x1 x2 x7 (W (x8+1)) b1000003) [iN (dc ((W (x2 - x7))≥2))]:=by kernel_rfl
def xQS(x1 x2 x7 x8 x9:Int)(b1000003:List Org)(r1:Bool × (List Org)):rS 14 xBQ (xIC x1 x2 x7 x8 x9 b1000003) [Y,Y] [xAl r1]=st 18 xBQ (xID x1 x2 x7 x8 r1.2) [iY (dc (x9≥1)),xRw x9 b1000003 r1,iY (!r1.1)]:=by kernel_rfl
def xQT(x1 x2 x7 x8 x9:Int)(b1000003:List Org)(r1:Bool × (List Org))(r2:(List Org)):rS 14 xBQ (xIC x1 x2 x7 x8 x9 b1000003) [Y,F] [xAl r1,xAg r2]=st 14 xBQ (xIC x1 x2 x7 x8 (W (x9 - 1)) r2) [iY (dc (x9≥1)),xRw x9 b1000003 r1,iN (!r1.1),AbC 141 (xAy x9 (W (x9 - 1)) r1.2) (xAg r2),2≤Ln r1.2,Ln r2=Ln r1.2]:=by kernel_rfl
def xQU(x1 x2 x7 x8 x9:Int)(b1000003:List Org):rS 14 xBQ (xIC x1 x2 x7 x8 x9 b1000003) [F] []=st 18 xBQ (xID x1 x2 x7 x8 b1000003) [iN (dc (x9≥1))]:=by kernel_rfl
def xR7(x1 x2 x7 x8:Int)(b1000003:List Org):rS 7 xBQ (xIF x1 x2 x7 x8 b1000003) [Y] []=dn (xAm (true,b1000003)) [iY (x7==x2)]:=by kernel_rfl
def xR8(x1 x2 x7 x8:Int)(b1000003:List Org):rS 7 xBQ (xIF x1 x2 x7 x8 b1000003) [F,Y] []=dn (xAm (false,b1000003)) [iN (x7==x2),iY (dc ((W (x2 - x1))<50))]:=by kernel_rfl
def xQ5(x1 x2 x7 x8:Int)(b1000003:List Org)(r1:(List Org)):rS 7 xBQ (xIF x1 x2 x7 x8 b1000003) [F,F,Y] [xAg r1]=st 14 xBQ (xIC x1 x2 x7 x8 (W (x7 - 1)) r1) [iN (x7==x2),iN (dc ((W (x2 - x1))<50)),AbC 141 (xAy x7 (W (x7 - 1)) b1000003) (xAg r1),2≤Ln b1000003,Ln r1=Ln b1000003,iY (dc ((W (x7 - x1))≥2))]:=by kernel_rfl
def xQ6(x1 x2 x7 x8:Int)(b1000003:List Org)(r1:(List Org)):rS 7 xBQ (xIF x1 x2 x7 x8 b1000003) [F,F,F] [xAg r1]=st 18 xBQ (xID x1 x2 x7 x8 r1) [iN (x7==x2),iN (dc ((W (x2 - x1))<50)),AbC 141 (xAy x7 (W (x7 - 1)) b1000003) (xAg r1),2≤Ln b1000003,Ln r1=Ln b1000003,iN (dc ((W (x7 - x1))≥2))]:=by kernel_rfl
def xQ2(x1 x2 x7 x8:Int)(b1000003:List Org)(r1:Bool × (List Org)):rS 5 xBQ (xJu x1 x2 x7 x8 b1000003) [Y,Y] [xAl r1]=st 5 xBQ (xJu x1 x2 (W (x7+1)) x8 r1.2) [xGw x7 x2,xRw x7 b1000003 r1,iY (!r1.1)]:=by kernel_rfl
def xQ3(x1 x2 x7 x8:Int)(b1000003:List Org)(r1:Bool × (List Org)):rS 5 xBQ (xJu x1 x2 x7 x8 b1000003) [Y,F] [xAl r1]=st 7 xBQ (xIF x1 x2 x7 x8 r1.2) [xGw x7 x2,xRw x7 b1000003 r1,iN (!r1.1)]:=by kernel_rfl
def xQ4(x1 x2 x7 x8:Int)(b1000003:List Org):rS 5 xBQ (xJu x1 x2 x7 x8 b1000003) [F,F] []=st 7 xBQ (xIF x1 x2 x7 x8 b1000003) [xJg x7 x2,iN false]:=by kernel_rfl
def xQ0(x1 x2 x7 x8:Int)(b1000003:List Org):rS 3 xBQ (xFA x1 x2 x7 x8 b1000003) [Y] []=st 5 xBQ (xJu x1 x2 x7 x8 b1000003) [iY (dc (x8<5))]:=by kernel_rfl
def xQ1(x1 x2 x7 x8:Int)(b1000003:List Org):rS 3 xBQ (xFA x1 x2 x7 x8 b1000003) [F] []=dn (xAm (false,b1000003)) [iN (dc (x8<5))]:=by kernel_rfl
def xQ7(a0 a1:Int)(a2:List Org):rE xBQ (xBp a0 a1 a2) [] []=st 3 xBQ (xFA a0 a1 (W (a0+1)) 0 a2) []:=by kernel_rfl
theorem xSE{N:Nat}{k3:Int→Int→Int→Int→(List Org)→Option (Bool × (List Org))}(hk3:∀z0 z1 z2 z3 z4 r,k3 z0 z1 z2 z3 z4=some r→RS Tryz.f149 xBQ 3 (xFA z0 z1 z2 z3 z4) (xAm r)):∀n x1 x2 x7 x8 x10 b1000003 r,xA3 N k3 n x1 x2 x7 x8 x10 b1000003=some r→RS Tryz.f149 xBQ 20 (xIE x1 x2 x7 x8 x10 b1000003) (xAm r):=by
 intro n
 induction n with
 |zero=>exact fun _ _ _ _ _ _ _ h=>nE h
 |succ n ih =>
  exact fun x1 x2 x7 x8 x10 b1000003 r h =>
   cE h (fun h0 h=>bE h fun r1 h1 h=>cE h (fun h2 h=>tS xDV (xQX x1 x2 x7 x8 x10 b1000003 r1) (oc3 h0 (xAq h1) h2 on) (hk3 _ _ _ _ _ _ h)) fun h2 h =>
   bE h fun r2 h3 h=>iE h fun h4 h=>iE h fun h5 h=>tS xDV (xQY x1 x2 x7 x8 x10 b1000003 r1 r2) (oc6 h0 (xAq h1) h2 (xAp h3) h4 h5 on) (ih _ _ _ _ _ _ _ h)) fun h0 h =>
   tS xDV (xQZ x1 x2 x7 x8 x10 b1000003) (oc h0 on) (hk3 _ _ _ _ _ _ h)
theorem xL6{N:Nat}{k3:Int→Int→Int→Int→(List Org)→Option (Bool × (List Org))}(hk3:∀z0 z1 z2 z3 z4 r,k3 z0 z1 z2 z3 z4=some r→RS Tryz.f149 xBQ 3 (xFA z0 z1 z2 z3 z4) (xAm r)):∀x1 x2 x7 x8 b1000003 r,xAQ N k3 x1 x2 x7 x8 b1000003=some r→RS Tryz.f149 xBQ 18 (xID x1 x2 x7 x8 b1000003) (xAm r):=fun x1 x2 x7 x8 b1000003 r h =>
 cE h (fun h0 h=>tS xDV (xQV x1 x2 x7 x8 b1000003) (oc h0 on) (xSE hk3 _ _ _ _ _ _ _ _ h)) fun h0 h =>
 tS xDV (xQW x1 x2 x7 x8 b1000003) (oc h0 on) (hk3 _ _ _ _ _ _ h)
theorem xSD{N:Nat}{k3:Int→Int→Int→Int→(List Org)→Option (Bool × (List Org))}(hk3:∀z0 z1 z2 z3 z4 r,k3 z0 z1 z2 z3 z4=some r→RS Tryz.f149 xBQ 3 (xFA z0 z1 z2 z3 z4) (xAm r)):∀n x1 x2 x7 x8 x9 b1000003 r,xA2 N k3 n x1 x2 x7 x8 x9 b1000003=some r→RS Tryz.f149 xBQ 14 (xIC x1 x2 x7 x8 x9 b1000003) (xAm r):=by
 intro n
 induction n with
 |zero=>exact fun _ _ _ _ _ _ _ h=>nE h
 |succ n ih =>
  exact fun x1 x2 x7 x8 x9 b1000003 r h =>
   cE h (fun h0 h=>bE h fun r1 h1 h=>cE h (fun h2 h=>tS xDV (xQS x1 x2 x7 x8 x9 b1000003 r1) (oc3 h0 (xAq h1) h2 on) (xL6 hk3 _ _ _ _ _ _ h)) fun h2 h =>
   bE h fun r2 h3 h=>iE h fun h4 h=>iE h fun h5 h=>tS xDV (xQT x1 x2 x7 x8 x9 b1000003 r1 r2) (oc6 h0 (xAq h1) h2 (xAp h3) h4 h5 on) (ih _ _ _ _ _ _ _ h)) fun h0 h =>
   tS xDV (xQU x1 x2 x7 x8 x9 b1000003) (oc h0 on) (xL6 hk3 _ _ _ _ _ _ h)
theorem xPm{N:Nat}{k3:Int→Int→Int→Int→(List Org)→Option (Bool × (List Org))}(hk3:∀z0 z1 z2 z3 z4 r,k3 z0 z1 z2 z3 z4=some r→RS Tryz.f149 xBQ 3 (xFA z0 z1 z2 z3 z4) (xAm r)):∀x1 x2 x7 x8 b1000003 r,xA7 N k3 x1 x2 x7 x8 b1000003=some r→RS Tryz.f149 xBQ 7 (xIF x1 x2 x7 x8 b1000003) (xAm r):=fun x1 x2 x7 x8 b1000003 r h =>
 cE h (fun h0 h=>dS h xDV (xR7 x1 x2 x7 x8 b1000003) (oc h0 on)) fun h0 h =>
 cE h (fun h1 h=>dS h xDV (xR8 x1 x2 x7 x8 b1000003) (oc2 h0 h1 on)) fun h1 h =>
 bE h fun r1 h2 h=>iE h fun h3 h=>iE h fun h4 h=>cE h (fun h5 h=>tS xDV (xQ5 x1 x2 x7 x8 b1000003 r1) (oc6 h0 h1 (xAp h2) h3 h4 h5 on) (xSD hk3 _ _ _ _ _ _ _ _ h)) fun h5 h =>
 tS xDV (xQ6 x1 x2 x7 x8 b1000003 r1) (oc6 h0 h1 (xAp h2) h3 h4 h5 on) (xL6 hk3 _ _ _ _ _ _ h)
theorem xUt{N:Nat}{k3:Int→Int→Int→Int→(List Org)→Option (Bool × (List Org))}(hk3:∀z0 z1 z2 z3 z4 r,k3 z0 z1 z2 z3 z4=some r→RS Tryz.f149 xBQ 3 (xFA z0 z1 z2 z3 z4) (xAm r)):∀n x1 x2 x7 x8 b1000003 r,xA6 N k3 n x1 x2 x7 x8 b1000003=some r→RS Tryz.f149 xBQ 5 (xJu x1 x2 x7 x8 b1000003) (xAm r):=by
 intro n
 induction n with
 |zero=>exact fun _ _ _ _ _ _ h=>nE h
 |succ n ih =>
  exact fun x1 x2 x7 x8 b1000003 r h =>
   cE h (fun h0 h=>bE h fun r1 h1 h=>cE h (fun h2 h=>tS xDV (xQ2 x1 x2 x7 x8 b1000003 r1) (oc3 h0 (xAq h1) h2 on) (ih _ _ _ _ _ _ h)) fun h2 h =>
   tS xDV (xQ3 x1 x2 x7 x8 b1000003 r1) (oc3 h0 (xAq h1) h2 on) (xPm hk3 _ _ _ _ _ _ h)) fun h0 h =>
   tS xDV (xQ4 x1 x2 x7 x8 b1000003) (oc2 h0 rfl on) (xPm hk3 _ _ _ _ _ _ h)
theorem xUs{N:Nat}:∀n x1 x2 x7 x8 b1000003 r,xAS N n x1 x2 x7 x8 b1000003=some r→RS Tryz.f149 xBQ 3 (xFA x1 x2 x7 x8 b1000003) (xAm r):=by
 intro n
 induction n with
 |zero=>exact fun _ _ _ _ _ _ h=>nE h
 |succ n ih =>
  exact fun x1 x2 x7 x8 b1000003 r h =>
   cE h (fun h0 h=>tS xDV (xQ0 x1 x2 x7 x8 b1000003) (oc h0 on) (xUt ih _ _ _ _ _ _ _ h)) fun h0 h =>
   dS h xDV (xQ1 x1 x2 x7 x8 b1000003) (oc h0 on)
theorem xUu{N:Nat}:∀a0 a1 a2 r,xBB N a0 a1 a2=some r→RE Tryz.f149 xBQ (xBp a0 a1 a2) (xAm r):=fun a0 a1 a2 r h =>
 tE xDV (xQ7 a0 a1 a2) on (xUs _ _ _ _ _ _ _ h)
theorem xDo{N:Nat}{a0:Int}{a1:Int}{a2:List Org}{r:Bool × (List Org)}(h:xBB N  a0 a1 a2=some r):AbC 149 (xBp a0 a1 a2) (xAm r) :=
 AbsCalls.of_reach xDV rfl rfl rfl (Nat.le_of_ble_eq_true rfl) (xUu a0 a1 a2 r h)
noncomputable def xMt:Info:= { body:=(Tryz.f184.body).getD .skip,nt:=24,results:= [.tmp 8, .tmp 9],keep:= [0,2,4,6,8,16,18,28,2000008,7,9,2000009],live:= [],modes:= [],ext:= [3,1000004] }
theorem xM2:FnOk Tryz.prog 184 Tryz.f184 xMt:=⟨Tryz.func184,by kernel_rfl,by kernel_rfl,by kernel_rfl,by kernel_rfl⟩
def xQB(a0 a1 a2:Int)(a3:List Org)(r1:Bool × (List Org)):rE xMt (xBD a0 a1 a2 a3) [Y] [xAl r1]=dn (xAX (a1,a0,(W (a2+1)),r1.2)) [xLD a1 a0 a3 r1,iY r1.1]:=by kernel_rfl
def xQC(a0 a1 a2:Int)(a3:List Org)(r1:Bool × (List Org)):rE xMt (xBD a0 a1 a2 a3) [F] [xAl r1]=dn (xAX (a0,a1,a2,r1.2)) [xLD a1 a0 a3 r1,iN r1.1]:=by kernel_rfl
theorem xSC{N:Nat}:∀a0 a1 a2 a3 r,xBW N a0 a1 a2 a3=some r→RE Tryz.f184 xMt (xBD a0 a1 a2 a3) (xAX r):=fun a0 a1 a2 a3 r h =>
 bE h fun r1 h0 h=>cE h (fun h1 h=>dE h xM2 (xQB a0 a1 a2 a3 r1) (oc2 (xAq h0) h1 on)) fun h1 h =>
 dE h xM2 (xQC a0 a1 a2 a3 r1) (oc2 (xAq h0) h1 on)
theorem xDH{N:Nat}{a0:Int}{a1:Int}{a2:Int}{a3:List Org}{r:Int × Int × Int × (List Org)}(h:xBW N  a0 a1 a2 a3=some r):AbC 184 (xBD a0 a1 a2 a3) (xAX r) :=
 AbsCalls.of_reach xM2 rfl rfl rfl (Nat.le_of_ble_eq_true rfl) (xSC a0 a1 a2 a3 r h)
noncomputable def xNR:Info:= { body:=(Tryz.f170.body).getD .skip,nt:=36,results:= [.tmp 10],keep:= [0,2,4,6,8,10,20,2000010,9,11,2000011],live:= [],modes:= [(1, [(5, .take,false)]),(2, [(5, .take,false)]),(3, [(5, .take,false)])],ext:= [4,1000005] }
theorem xPo:FnOk Tryz.prog 170 Tryz.f170 xNR:=⟨Tryz.func170,by kernel_rfl,by kernel_rfl,by kernel_rfl,by kernel_rfl⟩
def xQA(a0 a1 a2 a3:Int)(a4:List Org)(r1:Int × Int × Int × (List Org))(r2:Int × Int × Int × (List Org))(r3:Int × Int × Int × (List Org)):rE xNR (xBm a0 a1 a2 a3 a4) [] [cl (xAX r1),cl (xAX r2),cl (xAX r3)]=dn (xAF (r3.2.1,r3.2.2.1,r3.2.2.2)) [AbC 184 (xBD a0 a1 a3 a4) (xAX r1),AbC 184 (xBD r1.2.1 a2 r1.2.2.1 r1.2.2.2) (xAX r2),AbC 184 (xBD r1.1 r2.1 r2.2.2.1 r2.2.2.2) (xAX r3)]:=by kernel_rfl
theorem xSB{N:Nat}:∀a0 a1 a2 a3 a4 r,xBV N a0 a1 a2 a3 a4=some r→RE Tryz.f170 xNR (xBm a0 a1 a2 a3 a4) (xAF r):=fun a0 a1 a2 a3 a4 r h =>
 bE h fun r1 h0 h=>bE h fun r2 h1 h=>bE h fun r3 h2 h=>dE h xPo (xQA a0 a1 a2 a3 a4 r1 r2 r3) (oc3 (xDH h0) (xDH h1) (xDH h2) on)
theorem xBC{N:Nat}{a0:Int}{a1:Int}{a2:Int}{a3:Int}{a4:List Org}{r:Int × Int × (List Org)}(h:xBV N  a0 a1 a2 a3 a4=some r):AbC 170 (xBm a0 a1 a2 a3 a4) (xAF r) :=
 AbsCalls.of_reach xPo rfl rfl rfl (Nat.le_of_ble_eq_true rfl) (xSB a0 a1 a2 a3 a4 r h)
noncomputable def xNQ:Info:= { body:=(Tryz.f169.body).getD .skip,nt:=15,results:= [.tmp 6],keep:= [0,2,4,6,12,2000006,5,7,2000007],live:= [],modes:= [],ext:= [2,1000003] }
theorem xPn:FnOk Tryz.prog 169 Tryz.f169 xNQ:=⟨Tryz.func169,by kernel_rfl,by kernel_rfl,by kernel_rfl,by kernel_rfl⟩
def xQz(a0 a1:Int)(a2:List Org)(r1:Int × Int × (List Org)):rE xNQ (xBo a0 a1 a2) [] [cl (xAF r1)]=dn (xAu (r1.1,r1.2.1,r1.2.2)) [AbC 170 (xBm (W (a0 - 1)) a0 (W (a0+1)) a1 a2) (xAF r1)]:=by kernel_rfl
theorem xSA{N:Nat}:∀a0 a1 a2 r,xBh N a0 a1 a2=some r→RE Tryz.f169 xNQ (xBo a0 a1 a2) (xAu r):=fun a0 a1 a2 r h =>
 bE h fun r1 h0 h=>dE h xPn (xQz a0 a1 a2 r1) (oc (xBC h0) on)
theorem xAL{N:Nat}{a0:Int}{a1:Int}{a2:List Org}{r:Int × Int × (List Org)}(h:xBh N  a0 a1 a2=some r):AbC 169 (xBo a0 a1 a2) (xAu r) :=
 AbsCalls.of_reach xPn rfl rfl rfl (Nat.le_of_ble_eq_true rfl) (xSA a0 a1 a2 r h)
noncomputable def xH7:Info:= { body:=(Tryz.f147.body).getD .skip,nt:=57,results:= [.tmp 6, .tmp 7],keep:= [0,2,4,6,12,14,16,18,20,22,24,64,68,98,102,108,2000006,7,19,2000007],live:= [],modes:= [],ext:= [1000003] }
theorem xHD:FnOk Tryz.prog 147 Tryz.f147 xH7:=⟨Tryz.func147,by kernel_rfl,by kernel_rfl,by kernel_rfl,by kernel_rfl⟩
abbrev xPY(v0 v1:Int):=W (Int.tdiv (W (v0 - v1)) 4)
abbrev xU8(v0 v1:Int)(v2:List Org)(v3:Int × Int × (List Org)):Prop:=AbC 169 (xBo (W (v0+(W ((xPY v1 v0)*1)))) 0 v2) (xAu v3)
abbrev xU9(v0 v1:Int)(v2 v3:Int × Int × (List Org)):Prop:=AbC 169 (xBo (xNf v0 v1) v2.2.1 v2.2.2) (xAu v3)
abbrev xVa(v0 v1:Int)(v2 v3:Int × Int × (List Org)):Prop:=AbC 169 (xBo (W (v0+(W ((xPY v1 v0)*3)))) v2.2.1 v2.2.2) (xAu v3)
abbrev xNg(v0 v1:Int):=dc ((W (v0 - v1))≥50)
def xRV(a0 a1:Int)(a2:List Org)(r1:Int × Int × (List Org))(r2:Int × Int × (List Org))(r3:Int × Int × (List Org))(r4:Int × Int × (List Org)):rE xH7 (xAE a0 a1 a2) [Y,Y,Y] [cl (xAu r1),cl (xAu r2),cl (xAu r3),cl (xAF r4)]=dn (xAw (r4.1,1,r4.2.2)) [4≠(0:Int),4≠(0:Int),4≠(0:Int),xTm a1 a0,iY (xNg a1 a0),xU8 a0 a1 a2 r1,xU9 a0 a1 r1 r2,xVa a0 a1 r2 r3,AbC 170 (xBm r1.1 r2.1 r3.1 r3.2.1 r3.2.2) (xAF r4),iY (r4.2.1==0)]:=by kernel_rfl
def xRW(a0 a1:Int)(a2:List Org)(r1:Int × Int × (List Org))(r2:Int × Int × (List Org))(r3:Int × Int × (List Org))(r4:Int × Int × (List Org)):rE xH7 (xAE a0 a1 a2) [Y,Y,F,Y] [cl (xAu r1),cl (xAu r2),cl (xAu r3),cl (xAF r4)]=dn (xAw (r4.1,2,r4.2.2)) [4≠(0:Int),4≠(0:Int),4≠(0:Int),xTm a1 a0,iY (xNg a1 a0),xU8 a0 a1 a2 r1,xU9 a0 a1 r1 r2,xVa a0 a1 r2 r3,AbC 170 (xBm r1.1 r2.1 r3.1 r3.2.1 r3.2.2) (xAF r4),iN (r4.2.1==0),iY (r4.2.1==12)]:=by kernel_rfl
def xRX(a0 a1:Int)(a2:List Org)(r1:Int × Int × (List Org))(r2:Int × Int × (List Org))(r3:Int × Int × (List Org))(r4:Int × Int × (List Org)):rE xH7 (xAE a0 a1 a2) [Y,Y,F,F] [cl (xAu r1),cl (xAu r2),cl (xAu r3),cl (xAF r4)]=dn (xAw (r4.1,0,r4.2.2)) [4≠(0:Int),4≠(0:Int),4≠(0:Int),xTm a1 a0,iY (xNg a1 a0),xU8 a0 a1 a2 r1,xU9 a0 a1 r1 r2,xVa a0 a1 r2 r3,AbC 170 (xBm r1.1 r2.1 r3.1 r3.2.1 r3.2.2) (xAF r4),iN (r4.2.1==0),iN (r4.2.1==12)]:=by kernel_rfl
abbrev xVb(v0 v1:Int)(v2:List Org)(v3:Int × Int × (List Org)):Prop:=AbC 170 (xBm (W (v0+(W ((xPY v1 v0)*1)))) (xNf v0 v1) (W (v0+(W ((xPY v1 v0)*3)))) 0 v2) (xAF v3)
def xRY(a0 a1:Int)(a2:List Org)(r1:Int × Int × (List Org)):rE xH7 (xAE a0 a1 a2) [Y,F,Y] [cl (xAF r1)]=dn (xAw (r1.1,1,r1.2.2)) [4≠(0:Int),4≠(0:Int),4≠(0:Int),xTm a1 a0,iN (xNg a1 a0),xVb a0 a1 a2 r1,iY (r1.2.1==0)]:=by kernel_rfl
def xRZ(a0 a1:Int)(a2:List Org)(r1:Int × Int × (List Org)):rE xH7 (xAE a0 a1 a2) [Y,F,F,Y] [cl (xAF r1)]=dn (xAw (r1.1,2,r1.2.2)) [4≠(0:Int),4≠(0:Int),4≠(0:Int),xTm a1 a0,iN (xNg a1 a0),xVb a0 a1 a2 r1,iN (r1.2.1==0),iY (r1.2.1==12)]:=by kernel_rfl
def xR0(a0 a1:Int)(a2:List Org)(r1:Int × Int × (List Org)):rE xH7 (xAE a0 a1 a2) [Y,F,F,F] [cl (xAF r1)]=dn (xAw (r1.1,0,r1.2.2)) [4≠(0:Int),4≠(0:Int),4≠(0:Int),xTm a1 a0,iN (xNg a1 a0),xVb a0 a1 a2 r1,iN (r1.2.1==0),iN (r1.2.1==12)]:=by kernel_rfl
def xR1(a0 a1:Int)(a2:List Org):rE xH7 (xAE a0 a1 a2) [F,Y] []=dn (xAw ((xNf a0 a1),1,a2)) [4≠(0:Int),4≠(0:Int),4≠(0:Int),iN (dc ((W (a1 - a0))≥8)),iY ((0:Int)==0)]:=by kernel_rfl
def xR2(a0 a1:Int)(a2:List Org):rE xH7 (xAE a0 a1 a2) [F,F,Y] []=dn (xAw ((xNf a0 a1),2,a2)) [4≠(0:Int),4≠(0:Int),4≠(0:Int),iN (dc ((W (a1 - a0))≥8)),iN ((0:Int)==0),iY ((0:Int)==12)]:=by kernel_rfl
def xR3(a0 a1:Int)(a2:List Org):rE xH7 (xAE a0 a1 a2) [F,F,F] []=dn (xAw ((xNf a0 a1),0,a2)) [4≠(0:Int),4≠(0:Int),4≠(0:Int),iN (dc ((W (a1 - a0))≥8)),iN ((0:Int)==0),iN ((0:Int)==12)]:=by kernel_rfl
theorem xUp{N:Nat}:∀a0 a1 a2 r,xCc N a0 a1 a2=some r→RE Tryz.f147 xH7 (xAE a0 a1 a2) (xAw r):=fun a0 a1 a2 r h =>
 cE h (fun h3 h=>cE h (fun h4 h=>bE h fun r1 h5 h=>bE h fun r2 h6 h=>bE h fun r3 h7 h=>bE h fun r4 h8 h=>cE h (fun h9 h=>dE h xHD (xRV a0 a1 a2 r1 r2 r3 r4) (oc10 (by decide) (by decide) (by decide) h3 h4 (xAL h5) (xAL h6) (xAL h7) (xBC h8) h9 on)) fun h9 h =>
 cE h (fun h10 h=>dE h xHD (xRW a0 a1 a2 r1 r2 r3 r4) (oc11 (by decide) (by decide) (by decide) h3 h4 (xAL h5) (xAL h6) (xAL h7) (xBC h8) h9 h10 on)) fun h10 h =>
 dE h xHD (xRX a0 a1 a2 r1 r2 r3 r4) (oc11 (by decide) (by decide) (by decide) h3 h4 (xAL h5) (xAL h6) (xAL h7) (xBC h8) h9 h10 on)) fun h4 h =>
 bE h fun r1 h5 h=>cE h (fun h6 h=>dE h xHD (xRY a0 a1 a2 r1) (oc7 (by decide) (by decide) (by decide) h3 h4 (xBC h5) h6 on)) fun h6 h =>
 cE h (fun h7 h=>dE h xHD (xRZ a0 a1 a2 r1) (oc8 (by decide) (by decide) (by decide) h3 h4 (xBC h5) h6 h7 on)) fun h7 h =>
 dE h xHD (xR0 a0 a1 a2 r1) (oc8 (by decide) (by decide) (by decide) h3 h4 (xBC h5) h6 h7 on)) fun h3 h =>
 cE h (fun h4 h=>dE h xHD (xR1 a0 a1 a2) (oc5 (by decide) (by decide) (by decide) h3 h4 on)) fun h4 h =>
 cE h (fun h5 h=>dE h xHD (xR2 a0 a1 a2) (oc6 (by decide) (by decide) (by decide) h3 h4 h5 on)) fun h5 h =>
 dE h xHD (xR3 a0 a1 a2) (oc6 (by decide) (by decide) (by decide) h3 h4 h5 on)
theorem xEq{N:Nat}{a0:Int}{a1:Int}{a2:List Org}{r:Int × Int × (List Org)}(h:xCc N  a0 a1 a2=some r):AbC 147 (xAE a0 a1 a2) (xAw r) :=
 AbsCalls.of_reach xHD rfl rfl rfl (Nat.le_of_ble_eq_true rfl) (xUp a0 a1 a2 r h)
noncomputable def xFb:Info:= { body:=(Tryz.f166.body).getD .skip,nt:=55,results:= [],keep:= [0,2,4,6,8,16,18,32,64,88,2000008,9,2000009],live:= [(2, [4,6,8,16,2000008,9,2000009])],modes:= [(4, [(4, .take,false)])],ext:= [1000004] }
theorem xHf:FnOk Tryz.prog 166 Tryz.f166 xFb:=⟨Tryz.func166,by kernel_rfl,by kernel_rfl,by kernel_rfl,by kernel_rfl⟩
def xEI(x2 x3 x8:Int)(b1000004:List Org):St:= [(4, .v false [.int .i64 x2]),(6, .v false [.int .i64 x3]),(8, .v false [.ptr 4 0]),(16, .v false [.int .i64 x8]),(9, .v true [.clo 64 [1000004], .swp 141 0 (.pointer (some ⟨0,80,none⟩)) 1000004]),(2000009, .v true [.sl (.lnt 0) .org b1000004])]
abbrev xPZ(v0:Int):=W ((W (2*v0))+1)
def xQr(x2 x3 x8:Int)(b1000004:List Org):rS 2 xFb (xEI x2 x3 x8 b1000004) [Y] []=dn (xAJ b1000004) [iY (dc (((xPZ x8):Int)≥x2))]:=by kernel_rfl
abbrev xPs(v0 v1:Int):Prop:=iN (dc (((xPZ v0):Int)≥v1))
abbrev xSX(v0 v1:Int):=dc (((W ((W ((W (2*v0))+1))+1)):Int)<v1)
abbrev xTz(v0 v1:Int):Prop:=iY (xSX v0 v1)
abbrev xLB(v0 v1:Int):=W (v0+(W ((W (2*v1))+1)))
abbrev xTA(v0 v1:Int)(v2:List Org)(v3:Bool × (List Org)):Prop:=AbC 64 (xBn (xLB v0 v1) (W ((xLB v0 v1)+1)) v2) (xAl v3)
abbrev xP0(v0:Int):=W ((W ((W (2*v0))+1))+1)
def xQs(x2 x3 x8:Int)(b1000004:List Org)(r1:Bool × (List Org))(r2:Bool × (List Org)):rS 2 xFb (xEI x2 x3 x8 b1000004) [F,Y,Y,Y] [xAl r1,xAl r2]=dn (xAJ r2.2) [xPs x8 x2,xTz x8 x2,xTA x3 x8 b1000004 r1,iY r1.1,AbC 64 (xBn (W (x3+x8)) (W (x3+(xP0 x8))) r1.2) (xAl r2),iY (!r2.1)]:=by kernel_rfl
def xQt(x2 x3 x8:Int)(b1000004:List Org)(r1:Bool × (List Org))(r2:Bool × (List Org))(r3:(List Org)):rS 2 xFb (xEI x2 x3 x8 b1000004) [F,Y,Y,F] [xAl r1,xAl r2,xAg r3]=st 2 xFb (xEI x2 x3 (xP0 x8) r3) [xPs x8 x2,xTz x8 x2,xTA x3 x8 b1000004 r1,iY r1.1,AbC 64 (xBn (W (x3+x8)) (W (x3+(xP0 x8))) r1.2) (xAl r2),iN (!r2.1),AbC 141 (xAy (W (x3+x8)) (W (x3+(xP0 x8))) r2.2) (xAg r3),2≤Ln r2.2,Ln r3=Ln r2.2]:=by kernel_rfl
def xQu(x2 x3 x8:Int)(b1000004:List Org)(r1:Bool × (List Org))(r2:Bool × (List Org)):rS 2 xFb (xEI x2 x3 x8 b1000004) [F,Y,F,Y] [xAl r1,xAl r2]=dn (xAJ r2.2) [xPs x8 x2,xTz x8 x2,xTA x3 x8 b1000004 r1,iN r1.1,AbC 64 (xBn (W (x3+x8)) (xLB x3 x8) r1.2) (xAl r2),iY (!r2.1)]:=by kernel_rfl
def xQv(x2 x3 x8:Int)(b1000004:List Org)(r1:Bool × (List Org))(r2:Bool × (List Org))(r3:(List Org)):rS 2 xFb (xEI x2 x3 x8 b1000004) [F,Y,F,F] [xAl r1,xAl r2,xAg r3]=st 2 xFb (xEI x2 x3 (xPZ x8) r3) [xPs x8 x2,xTz x8 x2,xTA x3 x8 b1000004 r1,iN r1.1,AbC 64 (xBn (W (x3+x8)) (xLB x3 x8) r1.2) (xAl r2),iN (!r2.1),AbC 141 (xAy (W (x3+x8)) (xLB x3 x8) r2.2) (xAg r3),2≤Ln r2.2,Ln r3=Ln r2.2]:=by kernel_rfl
def xQw(x2 x3 x8:Int)(b1000004:List Org)(r1:Bool × (List Org)):rS 2 xFb (xEI x2 x3 x8 b1000004) [F,F,F,Y] [xAl r1]=dn (xAJ r1.2) [xPs x8 x2,iN (xSX x8 x2),iN false,AbC 64 (xBn (W (x3+x8)) (xLB x3 x8) b1000004) (xAl r1),iY (!r1.1)]:=by kernel_rfl
def xQx(x2 x3 x8:Int)(b1000004:List Org)(r1:Bool × (List Org))(r2:(List Org)):rS 2 xFb (xEI x2 x3 x8 b1000004) [F,F,F,F] [xAl r1,xAg r2]=st 2 xFb (xEI x2 x3 (xPZ x8) r2) [xPs x8 x2,iN (xSX x8 x2),iN false,AbC 64 (xBn (W (x3+x8)) (xLB x3 x8) b1000004) (xAl r1),iN (!r1.1),AbC 141 (xAy (W (x3+x8)) (xLB x3 x8) r1.2) (xAg r2),2≤Ln r1.2,Ln r2=Ln r1.2]:=by kernel_rfl
def xQy(a0 a1 a2:Int)(a3:List Org):rE xFb (xCg a0 a1 a2 a3) [] []=st 2 xFb (xEI a1 a2 a0 a3) []:=by kernel_rfl
theorem xSy{N:Nat}:∀n x2 x3 x8 b1000004 r,xBc N n x2 x3 x8 b1000004=some r→RS Tryz.f166 xFb 2 (xEI x2 x3 x8 b1000004) (xAJ r):=by
 intro n
 induction n with
 |zero=>exact fun _ _ _ _ _ h=>nE h
 |succ n ih =>
  exact fun x2 x3 x8 b1000004 r h =>
   cE h (fun h0 h=>dS h xHf (xQr x2 x3 x8 b1000004) (oc h0 on)) fun h0 h =>
   cE h (fun h1 h=>bE h fun r1 h2 h=>cE h (fun h3 h=>bE h fun r2 h4 h=>cE h (fun h5 h=>dS h xHf (xQs x2 x3 x8 b1000004 r1 r2) (oc6 h0 h1 (xAq h2) h3 (xAq h4) h5 on)) fun h5 h =>
   bE h fun r3 h6 h=>iE h fun h7 h=>iE h fun h8 h=>tS xHf (xQt x2 x3 x8 b1000004 r1 r2 r3) (oc9 h0 h1 (xAq h2) h3 (xAq h4) h5 (xAp h6) h7 h8 on) (ih _ _ _ _ _ h)) fun h3 h =>
   bE h fun r2 h4 h=>cE h (fun h5 h=>dS h xHf (xQu x2 x3 x8 b1000004 r1 r2) (oc6 h0 h1 (xAq h2) h3 (xAq h4) h5 on)) fun h5 h =>
   bE h fun r3 h6 h=>iE h fun h7 h=>iE h fun h8 h=>tS xHf (xQv x2 x3 x8 b1000004 r1 r2 r3) (oc9 h0 h1 (xAq h2) h3 (xAq h4) h5 (xAp h6) h7 h8 on) (ih _ _ _ _ _ h)) fun h1 h =>
   bE h fun r1 h3 h=>cE h (fun h4 h=>dS h xHf (xQw x2 x3 x8 b1000004 r1) (oc5 h0 h1 rfl (xAq h3) h4 on)) fun h4 h =>
   bE h fun r2 h5 h=>iE h fun h6 h=>iE h fun h7 h=>tS xHf (xQx x2 x3 x8 b1000004 r1 r2) (oc8 h0 h1 rfl (xAq h3) h4 (xAp h5) h6 h7 on) (ih _ _ _ _ _ h)
theorem xSz{N:Nat}:∀a0 a1 a2 a3 r,xBE N a0 a1 a2 a3=some r→RE Tryz.f166 xFb (xCg a0 a1 a2 a3) (xAJ r):=fun a0 a1 a2 a3 r h =>
 tE xHf (xQy a0 a1 a2 a3) on (xSy _ _ _ _ _ _ h)
theorem xER{N:Nat}{a0:Int}{a1:Int}{a2:Int}{a3:List Org}{r:(List Org)}(h:xBE N  a0 a1 a2 a3=some r):AbC 166 (xCg a0 a1 a2 a3) (xAJ r) :=
 AbsCalls.of_reach xHf rfl rfl rfl (Nat.le_of_ble_eq_true rfl) (xSz a0 a1 a2 a3 r h)
noncomputable def xHe:Info:= { body:=(Tryz.f145.body).getD .skip,nt:=45,results:= [],keep:= [0,2,4,6,12,14,16,18,20,38,60,2000006,7,2000007],live:= [(5, [6,12,14,16,18,2000006,7,2000007]),(9, [6,12,14,20,2000006,7,2000007])],modes:= [(12, [(1, .take,false)])],ext:= [1000003] }
theorem xKL:FnOk Tryz.prog 145 Tryz.f145 xHe:=⟨Tryz.func145,by kernel_rfl,by kernel_rfl,by kernel_rfl,by kernel_rfl⟩
def xKF(x6 x7 x8 x9:Int)(b1000003:List Org):St:= [(6, .v false [.ptr 3 0]),(12, .v false [.int .i64 x6]),(14, .v false [.int .i64 x7]),(16, .v false [.int .i64 x8]),(18, .v false [.int .i64 x9]),(7, .v true [.clo 64 [1000003], .swp 141 0 (.pointer (some ⟨0,80,none⟩)) 1000003]),(2000007, .v true [.sl (.lnt 0) .org b1000003])]
def xKG(x6 x7 x10:Int)(b1000003:List Org):St:= [(6, .v false [.ptr 3 0]),(12, .v false [.int .i64 x6]),(14, .v false [.int .i64 x7]),(20, .v false [.int .i64 x10]),(7, .v true [.clo 64 [1000003], .swp 141 0 (.pointer (some ⟨0,80,none⟩)) 1000003]),(2000007, .v true [.sl (.lnt 0) .org b1000003])]
def xRN(x6 x7 x10:Int)(b1000003:List Org)(r1:(List Org))(r2:(List Org)):rS 9 xHe (xKG x6 x7 x10 b1000003) [Y] [xAg r1,cl (xAJ r2)]=st 9 xHe (xKG x6 x7 (W (x10 - 1)) r2) [iY (dc (x10≥0)),AbC 141 (xAy x6 (W (x6+x10)) b1000003) (xAg r1),2≤Ln b1000003,Ln r1=Ln b1000003,AbC 166 (xCg x7 x10 x6 r1) (xAJ r2)]:=by kernel_rfl
def xRO(x6 x7 x10:Int)(b1000003:List Org):rS 9 xHe (xKG x6 x7 x10 b1000003) [F] []=dn (xBt b1000003) [iN (dc (x10≥0))]:=by kernel_rfl
def xRL(x6 x7 x8 x9:Int)(b1000003:List Org)(r1:(List Org)):rS 5 xHe (xKF x6 x7 x8 x9 b1000003) [Y] [cl (xAJ r1)]=st 5 xHe (xKF x6 x7 x8 (W (x9 - 1)) r1) [iY (dc (x9≥0)),AbC 166 (xCg x9 x8 x6 b1000003) (xAJ r1)]:=by kernel_rfl
def xRM(x6 x7 x8 x9:Int)(b1000003:List Org):rS 5 xHe (xKF x6 x7 x8 x9 b1000003) [F] []=st 9 xHe (xKG x6 x7 (W (x8 - 1)) b1000003) [iN (dc (x9≥0))]:=by kernel_rfl
def xRP(a0 a1:Int)(a2:List Org):rE xHe (xCI a0 a1 a2) [] []=st 5 xHe (xKF a0 0 (W (a1 - a0)) (W (Int.tdiv (W ((W (a1 - a0)) - 1)) 2)) a2) [2≠(0:Int)]:=by kernel_rfl
theorem xUl{N:Nat}:∀n x6 x7 x10 b1000003 r,xBP N n x6 x7 x10 b1000003=some r→RS Tryz.f145 xHe 9 (xKG x6 x7 x10 b1000003) (xBt r):=by
 intro n
 induction n with
 |zero=>exact fun _ _ _ _ _ h=>nE h
 |succ n ih =>
  exact fun x6 x7 x10 b1000003 r h =>
   cE h (fun h0 h=>bE h fun r1 h1 h=>iE h fun h2 h=>iE h fun h3 h=>bE h fun r2 h4 h=>tS xKL (xRN x6 x7 x10 b1000003 r1 r2) (oc5 h0 (xAp h1) h2 h3 (xER h4) on) (ih _ _ _ _ _ h)) fun h0 h =>
   dS h xKL (xRO x6 x7 x10 b1000003) (oc h0 on)
theorem xUk{N:Nat}:∀n x6 x7 x8 x9 b1000003 r,xBO N n x6 x7 x8 x9 b1000003=some r→RS Tryz.f145 xHe 5 (xKF x6 x7 x8 x9 b1000003) (xBt r):=by
 intro n
 induction n with
 |zero=>exact fun _ _ _ _ _ _ h=>nE h
 |succ n ih =>
  exact fun x6 x7 x8 x9 b1000003 r h =>
   cE h (fun h0 h=>bE h fun r1 h1 h=>tS xKL (xRL x6 x7 x8 x9 b1000003 r1) (oc2 h0 (xER h1) on) (ih _ _ _ _ _ _ h)) fun h0 h =>
   tS xKL (xRM x6 x7 x8 x9 b1000003) (oc h0 on) (xUl _ _ _ _ _ _ h)
theorem xUm{N:Nat}:∀a0 a1 a2 r,xCw N a0 a1 a2=some r→RE Tryz.f145 xHe (xCI a0 a1 a2) (xBt r):=fun a0 a1 a2 r h =>
 tE xKL (xRP a0 a1 a2) (oc (by decide) on) (xUk _ _ _ _ _ _ _ h)
theorem xHB{N:Nat}{a0:Int}{a1:Int}{a2:List Org}{r:(List Org)}(h:xCw N  a0 a1 a2=some r):AbC 145 (xCI a0 a1 a2) (xBt r) :=
 AbsCalls.of_reach xKL rfl rfl rfl (Nat.le_of_ble_eq_true rfl) (xUm a0 a1 a2 r h)
noncomputable def xF5:Info:= { body:=(Tryz.f144.body).getD .skip,nt:=35,results:= [],keep:= [0,2,4,6,12,14,24,52,2000006,7,2000007],live:= [(2, [2,4,6,12,2000006,7,2000007]),(5, [2,4,6,12,14,2000006,7,2000007])],modes:= [(5, [(3, .take,false)])],ext:= [1000003] }
theorem xJA:FnOk Tryz.prog 144 Tryz.f144 xF5:=⟨Tryz.func144,by kernel_rfl,by kernel_rfl,by kernel_rfl,by kernel_rfl⟩
def xIA(x1 x2 x6:Int)(b1000003:List Org):St:= [(2, .v false [.int .i64 x1]),(4, .v false [.int .i64 x2]),(6, .v false [.ptr 3 0]),(12, .v false [.int .i64 x6]),(7, .v true [.clo 64 [1000003], .swp 141 0 (.pointer (some ⟨0,80,none⟩)) 1000003]),(2000007, .v true [.sl (.lnt 0) .org b1000003])]
def xJt(x1 x2 x6 x7:Int)(b1000003:List Org):St:= [(2, .v false [.int .i64 x1]),(4, .v false [.int .i64 x2]),(6, .v false [.ptr 3 0]),(12, .v false [.int .i64 x6]),(14, .v false [.int .i64 x7]),(7, .v true [.clo 64 [1000003], .swp 141 0 (.pointer (some ⟨0,80,none⟩)) 1000003]),(2000007, .v true [.sl (.lnt 0) .org b1000003])]
def xRH(x1 x2 x6 x7:Int)(b1000003:List Org)(r1:Bool × (List Org))(r2:(List Org)):rS 5 xF5 (xJt x1 x2 x6 x7 b1000003) [Y,Y] [xAl r1,xAg r2]=st 5 xF5 (xJt x1 x2 x6 (W (x7 - 1)) r2) [iY (dc (x7>x1)),xRw x7 b1000003 r1,iY r1.1,AbC 141 (xAy x7 (W (x7 - 1)) r1.2) (xAg r2),2≤Ln r1.2,Ln r2=Ln r1.2]:=by kernel_rfl
def xRI(x1 x2 x6 x7:Int)(b1000003:List Org)(r1:Bool × (List Org)):rS 5 xF5 (xJt x1 x2 x6 x7 b1000003) [Y,F] [xAl r1]=st 2 xF5 (xIA x1 x2 (W (x6+1)) r1.2) [iY (dc (x7>x1)),xRw x7 b1000003 r1,iN r1.1]:=by kernel_rfl
def xRJ(x1 x2 x6 x7:Int)(b1000003:List Org):rS 5 xF5 (xJt x1 x2 x6 x7 b1000003) [F,F] []=st 2 xF5 (xIA x1 x2 (W (x6+1)) b1000003) [iN (dc (x7>x1)),iN false]:=by kernel_rfl
def xRF(x1 x2 x6:Int)(b1000003:List Org):rS 2 xF5 (xIA x1 x2 x6 b1000003) [Y] []=st 5 xF5 (xJt x1 x2 x6 x6 b1000003) [xGw x6 x2]:=by kernel_rfl
def xRG(x1 x2 x6:Int)(b1000003:List Org):rS 2 xF5 (xIA x1 x2 x6 b1000003) [F] []=dn (xAY b1000003) [xJg x6 x2]:=by kernel_rfl
def xRK(a0 a1:Int)(a2:List Org):rE xF5 (xCn a0 a1 a2) [] []=st 2 xF5 (xIA a0 a1 (W (a0+1)) a2) []:=by kernel_rfl
theorem xUi{N:Nat}{k2:Int→Int→Int→(List Org)→Option ((List Org))}(hk2:∀z0 z1 z2 z3 r,k2 z0 z1 z2 z3=some r→RS Tryz.f144 xF5 2 (xIA z0 z1 z2 z3) (xAY r)):∀n x1 x2 x6 x7 b1000003 r,xBr N k2 n x1 x2 x6 x7 b1000003=some r→RS Tryz.f144 xF5 5 (xJt x1 x2 x6 x7 b1000003) (xAY r):=by
 intro n
 induction n with
 |zero=>exact fun _ _ _ _ _ _ h=>nE h
 |succ n ih =>
  exact fun x1 x2 x6 x7 b1000003 r h =>
   cE h (fun h0 h=>bE h fun r1 h1 h=>cE h (fun h2 h=>bE h fun r2 h3 h=>iE h fun h4 h=>iE h fun h5 h=>tS xJA (xRH x1 x2 x6 x7 b1000003 r1 r2) (oc6 h0 (xAq h1) h2 (xAp h3) h4 h5 on) (ih _ _ _ _ _ _ h)) fun h2 h =>
   tS xJA (xRI x1 x2 x6 x7 b1000003 r1) (oc3 h0 (xAq h1) h2 on) (hk2 _ _ _ _ _ h)) fun h0 h =>
   tS xJA (xRJ x1 x2 x6 x7 b1000003) (oc2 h0 rfl on) (hk2 _ _ _ _ _ h)
theorem xUh{N:Nat}:∀n x1 x2 x6 b1000003 r,xBq N n x1 x2 x6 b1000003=some r→RS Tryz.f144 xF5 2 (xIA x1 x2 x6 b1000003) (xAY r):=by
 intro n
 induction n with
 |zero=>exact fun _ _ _ _ _ h=>nE h
 |succ n ih =>
  exact fun x1 x2 x6 b1000003 r h =>
   cE h (fun h0 h=>tS xJA (xRF x1 x2 x6 b1000003) (oc h0 on) (xUi ih _ _ _ _ _ _ _ h)) fun h0 h =>
   dS h xJA (xRG x1 x2 x6 b1000003) (oc h0 on)
theorem xUj{N:Nat}:∀a0 a1 a2 r,xB4 N a0 a1 a2=some r→RE Tryz.f144 xF5 (xCn a0 a1 a2) (xAY r):=fun a0 a1 a2 r h =>
 tE xJA (xRK a0 a1 a2) on (xUh _ _ _ _ _ _ h)
theorem xGK{N:Nat}{a0:Int}{a1:Int}{a2:List Org}{r:(List Org)}(h:xB4 N  a0 a1 a2=some r):AbC 144 (xCn a0 a1 a2) (xAY r) :=
 AbsCalls.of_reach xJA rfl rfl rfl (Nat.le_of_ble_eq_true rfl) (xUj a0 a1 a2 r h)
def xJ9(q:Int→Int→Int→(List Org)→Option ((List Org))):Prop:=∀a0 a1 a2 a3 r,q a0 a1 a2 a3=some r→AbC 107 (xBz a0 a1 a2 a3) (xAr r)
noncomputable def xB6:Info:= { body:=(Tryz.f107.body).getD .skip,nt:=130,results:= [],keep:= [0,2,4,6,8,16,18,20,22,24,26,28,30,32,34,36,46,58,70,100,136,144,166,218,2000008,9,2000009],live:= [(3, [2,4,6,8,16,18,2000008,9,2000009]),(11, [2,4,6,8,16,18,20,2000008,9,2000009]),(16, [2,4,6,8,16,18,20,22,24,2000008,9,2000009]),(18, [2,4,6,8,16,18,20,22,2000008,9,2000009]),(21, [2,4,6,8,20,22,2000008,9,2000009])],modes:= [(11, [(4, .take,false)]),(16, [(1, .take,false),(2, .take,false),(4, .take,false)]),(18, [(2, .take,false)]),(20, [(0, .take,false)]),(21, [(5, .take,false)]),(22, [(0, .take,false)])],ext:= [1000004] }
theorem xEb:FnOk Tryz.prog 107 Tryz.f107 xB6:=⟨Tryz.func107,by kernel_rfl,by kernel_rfl,by kernel_rfl,by kernel_rfl⟩
def xE0(x1 x2 x3:Int)(x8 x9:Bool)(b1000004:List Org):St:= [(2, .v false [.int .i64 x1]),(4, .v false [.int .i64 x2]),(6, .v false [.int .i64 x3]),(8, .v false [.ptr 4 0]),(16, .v false [.bool x8]),(18, .v false [.bool x9]),(9, .v true [.clo 64 [1000004], .swp 141 0 (.pointer (some ⟨0,80,none⟩)) 1000004]),(2000009, .v true [.sl (.lnt 0) .org b1000004])]
def xJx(x1 x2 x3:Int)(x8 x9:Bool)(x10:Int)(b1000004:List Org):St:= [(2, .v false [.int .i64 x1]),(4, .v false [.int .i64 x2]),(6, .v false [.int .i64 x3]),(8, .v false [.ptr 4 0]),(16, .v false [.bool x8]),(18, .v false [.bool x9]),(20, .v false [.int .i64 x10]),(9, .v true [.clo 64 [1000004], .swp 141 0 (.pointer (some ⟨0,80,none⟩)) 1000004]),(2000009, .v true [.sl (.lnt 0) .org b1000004])]
def xG3(x1 x2 x3:Int)(x8 x9:Bool)(x10 x11 x12:Int)(b1000004:List Org):St:= [(2, .v false [.int .i64 x1]),(4, .v false [.int .i64 x2]),(6, .v false [.int .i64 x3]),(8, .v false [.ptr 4 0]),(16, .v false [.bool x8]),(18, .v false [.bool x9]),(20, .v false [.int .i64 x10]),(22, .v false [.int .i64 x11]),(24, .v false [.int .i64 x12]),(9, .v true [.clo 64 [1000004], .swp 141 0 (.pointer (some ⟨0,80,none⟩)) 1000004]),(2000009, .v true [.sl (.lnt 0) .org b1000004])]
def xG4(x1 x2 x3:Int)(x8 x9:Bool)(x10 x11:Int)(b1000004:List Org):St:= [(2, .v false [.int .i64 x1]),(4, .v false [.int .i64 x2]),(6, .v false [.int .i64 x3]),(8, .v false [.ptr 4 0]),(16, .v false [.bool x8]),(18, .v false [.bool x9]),(20, .v false [.int .i64 x10]),(22, .v false [.int .i64 x11]),(9, .v true [.clo 64 [1000004], .swp 141 0 (.pointer (some ⟨0,80,none⟩)) 1000004]),(2000009, .v true [.sl (.lnt 0) .org b1000004])]
def xJy(x1 x2 x3 x10 x11:Int)(b1000004:List Org):St:= [(2, .v false [.int .i64 x1]),(4, .v false [.int .i64 x2]),(6, .v false [.int .i64 x3]),(8, .v false [.ptr 4 0]),(20, .v false [.int .i64 x10]),(22, .v false [.int .i64 x11]),(9, .v true [.clo 64 [1000004], .swp 141 0 (.pointer (some ⟨0,80,none⟩)) 1000004]),(2000009, .v true [.sl (.lnt 0) .org b1000004])]
def xQL(x1 x2 x3 x10 x11:Int)(b1000004:List Org)(r1:Int × Bool × (List Org))(r2:(List Org)):rS 21 xB6 (xJy x1 x2 x3 x10 x11 b1000004) [Y] [cl (xAz r1),cl (xAr r2)]=st 3 xB6 (xE0 (W (r1.1+1)) x2 x3 (dc ((W (r1.1 - x1))≥(W (Int.tdiv x10 8)))) r1.2.1 r2) [AbC 151 (xB7 x1 x2 x11 b1000004) (xAz r1),8≠(0:Int),iY (dc ((W (r1.1 - x1))<(W (x2 - r1.1)))),AbC 107 (xBz x1 r1.1 x3 r1.2.2) (xAr r2)]:=by kernel_rfl
def xQM(x1 x2 x3 x10 x11:Int)(b1000004:List Org)(r1:Int × Bool × (List Org))(r2:(List Org)):rS 21 xB6 (xJy x1 x2 x3 x10 x11 b1000004) [F] [cl (xAz r1),cl (xAr r2)]=st 3 xB6 (xE0 x1 r1.1 x3 (dc ((W (x2 - r1.1))≥(W (Int.tdiv x10 8)))) r1.2.1 r2) [AbC 151 (xB7 x1 x2 x11 b1000004) (xAz r1),8≠(0:Int),iN (dc ((W (r1.1 - x1))<(W (x2 - r1.1)))),AbC 107 (xBz (W (r1.1+1)) x2 x3 r1.2.2) (xAr r2)]:=by kernel_rfl
abbrev xOn(v0:Int):Prop:=iY (dc (v0>0))
def xQI(x1 x2 x3:Int)(x8 x9:Bool)(x10 x11:Int)(b1000004:List Org)(r1:Bool × (List Org))(r2:Int × (List Org)):rS 18 xB6 (xG4 x1 x2 x3 x8 x9 x10 x11 b1000004) [Y,Y] [xAl r1,cl (xAM r2)]=st 3 xB6 (xE0 r2.1 x2 x3 x8 x9 r2.2) [xOn x1,AbC 64 (xBn (W (x1 - 1)) x11 b1000004) (xAl r1),iY (!r1.1),AbC 150 (xCh x1 x2 x11 r1.2) (xAM r2)]:=by kernel_rfl
def xQJ(x1 x2 x3:Int)(x8 x9:Bool)(x10 x11:Int)(b1000004:List Org)(r1:Bool × (List Org)):rS 18 xB6 (xG4 x1 x2 x3 x8 x9 x10 x11 b1000004) [Y,F] [xAl r1]=st 21 xB6 (xJy x1 x2 x3 x10 x11 r1.2) [xOn x1,AbC 64 (xBn (W (x1 - 1)) x11 b1000004) (xAl r1),iN (!r1.1)]:=by kernel_rfl
def xQK(x1 x2 x3:Int)(x8 x9:Bool)(x10 x11:Int)(b1000004:List Org):rS 18 xB6 (xG4 x1 x2 x3 x8 x9 x10 x11 b1000004) [F,F] []=st 21 xB6 (xJy x1 x2 x3 x10 x11 b1000004) [iN (dc (x1>0)),iN false]:=by kernel_rfl
def xQD(x1 x2 x3:Int)(x8 x9:Bool)(x10 x11 x12:Int)(b1000004:List Org)(r1:Bool × (List Org)):rS 16 xB6 (xG3 x1 x2 x3 x8 x9 x10 x11 x12 b1000004) [Y,Y,Y,Y] [cl (xAm r1)]=dn (xAr r1.2) [iY x8,iY x9,iY (x12==1),AbC 149 (xBp x1 x2 b1000004) (xAm r1),iY r1.1]:=by kernel_rfl
def xQE(x1 x2 x3:Int)(x8 x9:Bool)(x10 x11 x12:Int)(b1000004:List Org)(r1:Bool × (List Org)):rS 16 xB6 (xG3 x1 x2 x3 x8 x9 x10 x11 x12 b1000004) [Y,Y,Y,F] [cl (xAm r1)]=st 18 xB6 (xG4 x1 x2 x3 x8 x9 x10 x11 r1.2) [iY x8,iY x9,iY (x12==1),AbC 149 (xBp x1 x2 b1000004) (xAm r1),iN r1.1]:=by kernel_rfl
def xQF(x1 x2 x3:Int)(x8 x9:Bool)(x10 x11 x12:Int)(b1000004:List Org):rS 16 xB6 (xG3 x1 x2 x3 x8 x9 x10 x11 x12 b1000004) [Y,Y,F] []=st 18 xB6 (xG4 x1 x2 x3 x8 x9 x10 x11 b1000004) [iY x8,iY x9,iN (x12==1)]:=by kernel_rfl
def xQG(x1 x2 x3:Int)(x8 x9:Bool)(x10 x11 x12:Int)(b1000004:List Org):rS 16 xB6 (xG3 x1 x2 x3 x8 x9 x10 x11 x12 b1000004) [Y,F,F] []=st 18 xB6 (xG4 x1 x2 x3 x8 x9 x10 x11 b1000004) [iY x8,iN x9,iN false]:=by kernel_rfl
def xQH(x1 x2 x3:Int)(x8 x9:Bool)(x10 x11 x12:Int)(b1000004:List Org):rS 16 xB6 (xG3 x1 x2 x3 x8 x9 x10 x11 x12 b1000004) [F,F,F] []=st 18 xB6 (xG4 x1 x2 x3 x8 x9 x10 x11 b1000004) [iN x8,iN false,iN false]:=by kernel_rfl
def xPd(x1 x2 x3:Int)(x8 x9:Bool)(x10:Int)(b1000004:List Org)(r1:Int × Int × (List Org))(r2:(List Org)):rS 11 xB6 (xJx x1 x2 x3 x8 x9 x10 b1000004) [Y] [cl (xAw r1),cl (xBy r2)]=st 16 xB6 (xG3 x1 x2 x3 x8 x9 x10 (W ((W (x2 - 1)) - (W (r1.1 - x1)))) 1 r2) [AbC 147 (xAE x1 x2 b1000004) (xAw r1),iY (r1.2.1==2),AbC 148 (xCs x1 x2 r1.2.2) (xBy r2)]:=by kernel_rfl
def xPe(x1 x2 x3:Int)(x8 x9:Bool)(x10:Int)(b1000004:List Org)(r1:Int × Int × (List Org)):rS 11 xB6 (xJx x1 x2 x3 x8 x9 x10 b1000004) [F] [cl (xAw r1)]=st 16 xB6 (xG3 x1 x2 x3 x8 x9 x10 r1.1 r1.2.1 r1.2.2) [AbC 147 (xAE x1 x2 b1000004) (xAw r1),iN (r1.2.1==2)]:=by kernel_rfl
def xQN(x1 x2 x3:Int)(x8 x9:Bool)(b1000004:List Org)(r1:(List Org)):rS 3 xB6 (xE0 x1 x2 x3 x8 x9 b1000004) [Y] [cl (xAY r1)]=dn (xAr r1) [iY (dc ((W (x2 - x1))≤12)),AbC 144 (xCn x1 x2 b1000004) (xAY r1)]:=by kernel_rfl
def xQO(x1 x2 x3:Int)(x8 x9:Bool)(b1000004:List Org)(r1:(List Org)):rS 3 xB6 (xE0 x1 x2 x3 x8 x9 b1000004) [F,Y] [cl (xBt r1)]=dn (xAr r1) [iN (dc ((W (x2 - x1))≤12)),iY (x3==0),AbC 145 (xCI x1 x2 b1000004) (xBt r1)]:=by kernel_rfl
abbrev xKd(v0:Int):Prop:=iN (v0==0)
def xQP(x1 x2 x3:Int)(x8 x9:Bool)(b1000004:List Org)(r1:(List Org)):rS 3 xB6 (xE0 x1 x2 x3 x8 x9 b1000004) [F,F,Y] [cl (xBb r1)]=st 11 xB6 (xJx x1 x2 (W (x3 - 1)) x8 x9 (W (x2 - x1)) r1) [iN (dc ((W (x2 - x1))≤12)),xKd x3,iY (!x8),AbC 146 (xBU x1 x2 b1000004) (xBb r1)]:=by kernel_rfl
abbrev xAA(v0:Bool):Prop:=iN (!v0)
def xQQ(x1 x2 x3:Int)(x8 x9:Bool)(b1000004:List Org):rS 3 xB6 (xE0 x1 x2 x3 x8 x9 b1000004) [F,F,F] []=st 11 xB6 (xJx x1 x2 x3 x8 x9 (W (x2 - x1)) b1000004) [iN (dc ((W (x2 - x1))≤12)),xKd x3,xAA x8]:=by kernel_rfl
def xQR(a0 a1 a2:Int)(a3:List Org):rE xB6 (xBz a0 a1 a2 a3) [] []=st 3 xB6 (xE0 a0 a1 a2 true true a3) []:=by kernel_rfl
theorem xNZ{N q0}(g0:xJ9 q0){k3:Int→Int→Int→Bool→Bool→(List Org)→Option ((List Org))}(hk3:∀z0 z1 z2 z3 z4 z5 r,k3 z0 z1 z2 z3 z4 z5=some r→RS Tryz.f107 xB6 3 (xE0 z0 z1 z2 z3 z4 z5) (xAr r)):∀x1 x2 x3 x10 x11 b1000004 r,xCf N q0 k3 x1 x2 x3 x10 x11 b1000004=some r→RS Tryz.f107 xB6 21 (xJy x1 x2 x3 x10 x11 b1000004) (xAr r):=fun x1 x2 x3 x10 x11 b1000004 r h =>
 bE h fun r1 h0 h=>cE h (fun h2 h=>bE h fun r2 h3 h=>tS xEb (xQL x1 x2 x3 x10 x11 b1000004 r1 r2) (oc4 (xEH h0) (by decide) h2 (g0 _ _ _ _ _ h3) on) (hk3 _ _ _ _ _ _ _ h)) fun h2 h =>
 bE h fun r2 h3 h=>tS xEb (xQM x1 x2 x3 x10 x11 b1000004 r1 r2) (oc4 (xEH h0) (by decide) h2 (g0 _ _ _ _ _ h3) on) (hk3 _ _ _ _ _ _ _ h)
theorem xKY{N q0}(g0:xJ9 q0){k3:Int→Int→Int→Bool→Bool→(List Org)→Option ((List Org))}(hk3:∀z0 z1 z2 z3 z4 z5 r,k3 z0 z1 z2 z3 z4 z5=some r→RS Tryz.f107 xB6 3 (xE0 z0 z1 z2 z3 z4 z5) (xAr r)):∀x1 x2 x3 x8 x9 x10 x11 b1000004 r,xBu N q0 k3 x1 x2 x3 x8 x9 x10 x11 b1000004=some r→RS Tryz.f107 xB6 18 (xG4 x1 x2 x3 x8 x9 x10 x11 b1000004) (xAr r):=fun x1 x2 x3 x8 x9 x10 x11 b1000004 r h =>
 cE h (fun h0 h=>bE h fun r1 h1 h=>cE h (fun h2 h=>bE h fun r2 h3 h=>tS xEb (xQI x1 x2 x3 x8 x9 x10 x11 b1000004 r1 r2) (oc4 h0 (xAq h1) h2 (xGx h3) on) (hk3 _ _ _ _ _ _ _ h)) fun h2 h =>
 tS xEb (xQJ x1 x2 x3 x8 x9 x10 x11 b1000004 r1) (oc3 h0 (xAq h1) h2 on) (xNZ g0 hk3 _ _ _ _ _ _ _ h)) fun h0 h =>
 tS xEb (xQK x1 x2 x3 x8 x9 x10 x11 b1000004) (oc2 h0 rfl on) (xNZ g0 hk3 _ _ _ _ _ _ _ h)
theorem xNY{N q0}(g0:xJ9 q0){k3:Int→Int→Int→Bool→Bool→(List Org)→Option ((List Org))}(hk3:∀z0 z1 z2 z3 z4 z5 r,k3 z0 z1 z2 z3 z4 z5=some r→RS Tryz.f107 xB6 3 (xE0 z0 z1 z2 z3 z4 z5) (xAr r)):∀x1 x2 x3 x8 x9 x10 x11 x12 b1000004 r,xCe N q0 k3 x1 x2 x3 x8 x9 x10 x11 x12 b1000004=some r→RS Tryz.f107 xB6 16 (xG3 x1 x2 x3 x8 x9 x10 x11 x12 b1000004) (xAr r):=fun x1 x2 x3 x8 x9 x10 x11 x12 b1000004 r h =>
 cE h (fun h0 h=>cE h (fun h1 h=>cE h (fun h2 h=>bE h fun r1 h3 h=>cE h (fun h4 h=>dS h xEb (xQD x1 x2 x3 x8 x9 x10 x11 x12 b1000004 r1) (oc5 h0 h1 h2 (xDo h3) h4 on)) fun h4 h =>
 tS xEb (xQE x1 x2 x3 x8 x9 x10 x11 x12 b1000004 r1) (oc5 h0 h1 h2 (xDo h3) h4 on) (xKY g0 hk3 _ _ _ _ _ _ _ _ _ h)) fun h2 h =>
 tS xEb (xQF x1 x2 x3 x8 x9 x10 x11 x12 b1000004) (oc3 h0 h1 h2 on) (xKY g0 hk3 _ _ _ _ _ _ _ _ _ h)) fun h1 h =>
 tS xEb (xQG x1 x2 x3 x8 x9 x10 x11 x12 b1000004) (oc3 h0 h1 rfl on) (xKY g0 hk3 _ _ _ _ _ _ _ _ _ h)) fun h0 h =>
 tS xEb (xQH x1 x2 x3 x8 x9 x10 x11 x12 b1000004) (oc3 h0 rfl rfl on) (xKY g0 hk3 _ _ _ _ _ _ _ _ _ h)
theorem xNX{N q0}(g0:xJ9 q0){k3:Int→Int→Int→Bool→Bool→(List Org)→Option ((List Org))}(hk3:∀z0 z1 z2 z3 z4 z5 r,k3 z0 z1 z2 z3 z4 z5=some r→RS Tryz.f107 xB6 3 (xE0 z0 z1 z2 z3 z4 z5) (xAr r)):∀x1 x2 x3 x8 x9 x10 b1000004 r,xCd N q0 k3 x1 x2 x3 x8 x9 x10 b1000004=some r→RS Tryz.f107 xB6 11 (xJx x1 x2 x3 x8 x9 x10 b1000004) (xAr r):=fun x1 x2 x3 x8 x9 x10 b1000004 r h =>
 bE h fun r1 h0 h=>cE h (fun h1 h=>bE h fun r2 h2 h=>tS xEb (xPd x1 x2 x3 x8 x9 x10 b1000004 r1 r2) (oc3 (xEq h0) h1 (xGW h2) on) (xNY g0 hk3 _ _ _ _ _ _ _ _ _ _ h)) fun h1 h =>
 tS xEb (xPe x1 x2 x3 x8 x9 x10 b1000004 r1) (oc2 (xEq h0) h1 on) (xNY g0 hk3 _ _ _ _ _ _ _ _ _ _ h)
theorem xUf{N q0}(g0:xJ9 q0):∀n x1 x2 x3 x8 x9 b1000004 r,xBA N q0 n x1 x2 x3 x8 x9 b1000004=some r→RS Tryz.f107 xB6 3 (xE0 x1 x2 x3 x8 x9 b1000004) (xAr r):=by
 intro n
 induction n with
 |zero=>exact fun _ _ _ _ _ _ _ h=>nE h
 |succ n ih =>
  exact fun x1 x2 x3 x8 x9 b1000004 r h =>
   cE h (fun h0 h=>bE h fun r1 h1 h=>dS h xEb (xQN x1 x2 x3 x8 x9 b1000004 r1) (oc2 h0 (xGK h1) on)) fun h0 h =>
   cE h (fun h1 h=>bE h fun r1 h2 h=>dS h xEb (xQO x1 x2 x3 x8 x9 b1000004 r1) (oc3 h0 h1 (xHB h2) on)) fun h1 h =>
   cE h (fun h2 h=>bE h fun r1 h3 h=>tS xEb (xQP x1 x2 x3 x8 x9 b1000004 r1) (oc4 h0 h1 h2 (xGJ h3) on) (xNX g0 ih _ _ _ _ _ _ _ _ h)) fun h2 h =>
   tS xEb (xQQ x1 x2 x3 x8 x9 b1000004) (oc3 h0 h1 h2 on) (xNX g0 ih _ _ _ _ _ _ _ _ h)
theorem xUg{N q0}(g0:xJ9 q0):∀a0 a1 a2 a3 r,xDl N q0 a0 a1 a2 a3=some r→RE Tryz.f107 xB6 (xBz a0 a1 a2 a3) (xAr r):=fun a0 a1 a2 a3 r h =>
 tE xEb (xQR a0 a1 a2 a3) on (xUf g0 _ _ _ _ _ _ _ _ h)
theorem xGV{N q0}(g0:xJ9 q0){a0}{a1}{a2}{a3}{r}(h:xDl N q0 a0 a1 a2 a3=some r):AbC 107 (xBz a0 a1 a2 a3) (xAr r) :=
 AbsCalls.of_reach xEb rfl rfl rfl (Nat.le_of_ble_eq_true rfl) (xUg g0 a0 a1 a2 a3 r h)
theorem xEr{N:Nat}:∀d,xJ9 (xBv N d)
 |0=>fun _ _ _ _ _ h=>nE h
 |d+1=>fun _ _ _ _ _ h=>xGV (N:=N) (xEr d) h
theorem sort_pdqsort_func_cUnionOrigins_1_ok{N:Nat}{a0:Int}{a1:Int}{a2:Int}{a3:List Org}{r:(List Org)}(h:xD2 N a0 a1 a2 a3=some r):AbC 107 (xBz a0 a1 a2 a3) (xAr r):=xEr N _ _ _ _ r h
end Go.Ab.T
end
section
namespace Go.Ab
def Big(p:Nat→Prop):Prop:=∃k,∀N,k≤N→p N
def Big2(p:Nat→Nat→Prop):Prop:=∃k,∀N n,k≤N→k≤n→p N n
theorem Big.imp{p q:Nat→Prop}(h:Big p)(f:∀N,p N→q N):Big q:=h.elim fun k hk=>⟨k,fun N hN=>f N (hk N hN)⟩
theorem Big2.imp{p q:Nat→Nat→Prop}(h:Big2 p)(f:∀N n,p N n→q N n):Big2 q:=h.elim fun k hk=>⟨k,fun N n h1 h2=>f N n (hk N n h1 h2)⟩
theorem Big.of{p:Nat→Prop}(h:∀N,p N):Big p:=⟨0,fun N _=>h N⟩
theorem Big2.of{p:Nat→Nat→Prop}(h:∀N n,p N n):Big2 p:=⟨0,fun N n _ _=>h N n⟩
theorem Big.and{p q:Nat→Prop}(h:Big p)(h' :Big q):Big fun N=>p N∧q N:=by
 obtain⟨a,ha⟩:=h;obtain⟨b,hb⟩:=h'
 exact⟨max a b,fun N hN=>⟨ha N (by omega),hb N (by omega)⟩⟩
theorem Big2.and{p q:Nat→Nat→Prop}(h:Big2 p)(h' :Big2 q):Big2 fun N n=>p N n∧q N n:=by
 obtain⟨a,ha⟩:=h;obtain⟨b,hb⟩:=h'
 exact⟨max a b,fun N n h1 h2=>⟨ha N n (by omega) (by omega),hb N n (by omega) (by omega)⟩⟩
theorem Big.two{p:Nat→Prop}(h:Big p):Big2 fun N _=>p N:=h.elim fun k hk=>⟨k,fun N _ h _=>hk N h⟩
theorem Big2.diag{p:Nat→Nat→Prop}(h:Big2 p):Big fun N=>p N N:=h.elim fun k hk=>⟨k,fun N h=>hk N N h h⟩
theorem Big2.succ{p:Nat→Nat→Prop}(h:Big2 fun N n=>p N (n+1)):Big2 p:=by
 obtain⟨k,hk⟩:=h
 refine⟨k+1,fun N n h1 h2=> ?_⟩
 obtain⟨m,rfl⟩:∃m,n=m+1:=⟨n - 1,by omega⟩
 exact hk N m (by omega) (by omega)
theorem Big.list{α:Type}{p:α→Nat→Prop}{l:List α}(h:∀x ∈ l,Big (p x)):Big fun N=>∀x ∈ l,p x N:=by
 induction l with
 |nil=>exact .of fun N x hx=>by cases hx
 |cons a l ih =>
  refine((h a List.mem_cons_self).and (ih fun x hx=>h x (List.mem_cons_of_mem _ hx))).imp fun N ⟨h1,h2⟩ x hx=> ?_
  rcases List.mem_cons.1 hx with rfl |hx
  ·exact h1
  ·exact h2 x hx
theorem Big2.list{α:Type}{p:α→Nat→Nat→Prop}{l:List α}(h:∀x ∈ l,Big2 (p x)):Big2 fun N n=>∀x ∈ l,p x N n:=by
 induction l with
 |nil=>exact .of fun N n x hx=>by cases hx
 |cons a l ih =>
  refine((h a List.mem_cons_self).and (ih fun x hx=>h x (List.mem_cons_of_mem _ hx))).imp fun N n ⟨h1,h2⟩ x hx=> ?_
  rcases List.mem_cons.1 hx with rfl |hx
  ·exact h1
  ·exact h2 x hx
theorem Big.get{p:Nat→Prop}(h:Big p):∃N,p N:=h.elim fun k hk=>⟨k,hk k (Nat.le_refl k)⟩
def I64(x:Int):Prop:= -9223372036854775808≤x∧x≤9223372036854775807
theorem xSk(x:Int):IntKind.i64.wrap x=if x % 18446744073709551616≥9223372036854775808 then x % 18446744073709551616 - 18446744073709551616 else x % 18446744073709551616:=by
 show(if(true&&decide (x % 18446744073709551616≥9223372036854775808))=true then x % 18446744073709551616 - 18446744073709551616 else x % 18446744073709551616)=_
 simp only [Bool.true_and,decide_eq_true_eq]
theorem xDn{x:Int}(h1: -9223372036854775808≤x)(h2:x≤9223372036854775807):IntKind.i64.wrap x=x:=by
 rw [xSk]
 split <;>omega
theorem xKK{α:Type}{xs:List α}{i:Nat}{x:α}{l:List α}(h:xs.drop i=x::l):i<xs.length∧xs[i]? =some x∧xs.drop (i+1)=l:=by
 have h1:i<xs.length:=by
  rcases Nat.lt_or_ge i xs.length with h1 |h1
  ·exact h1
  ·rw [List.drop_eq_nil_of_le h1] at h;cases h
 rw [List.drop_eq_getElem_cons h1] at h
 cases h
 exact⟨h1,by simp [h1],rfl⟩
theorem xNM{α:Type}{xs:List α}{i:Nat}(h:xs.drop i= []):xs.length≤i:=by simpa using h
end Go.Ab
end
section
namespace Go.Ab
open Go.Sort
theorem xVB{a b:Org}:olt a b=true↔a.cell<b.cell∨(a.cell=b.cell∧a.row<b.row):=by
 unfold olt
 by_cases h1:a.cell<b.cell
 ·simp [h1]
 ·by_cases h2:a.cell=b.cell
  ·have:(a.cell==b.cell)=true:=by simpa using h2
   simp [this,h2]
  ·have:(a.cell==b.cell)=false:=by simpa using h2
   simp [h1,h2,this]
theorem xOu{a b:Org}:olt a b=false↔b.cell<a.cell∨(a.cell=b.cell∧b.row≤a.row):=by
 rw [←Bool.not_eq_true,xVB]
 omega
theorem xKD:SWO olt where
 irrefl:=fun x=>xOu.2 (by omega)
 trans:=fun x y z h1 h2=>by rw [xVB] at h1 h2 ⊢;omega
 ntrans:=fun x y z h1 h2=>by rw [xOu] at h1 h2 ⊢;omega
theorem xQf(x y:Org)(h1:olt x y=false)(h2:olt y x=false):x=y:=by
 rw [xOu] at h1 h2
 cases x;cases y
 simp at h1 h2 ⊢
 omega
theorem xOy(N:Nat)(a b:Org):xEh N a b=some (olt a b):=by
 unfold xEh olt
 by_cases h1:a.cell<b.cell
 ·simp [h1]
 ·cases h2:(a.cell==b.cell) <;>simp [h1]
theorem xTx{d:Array Org}{i:Nat}(hi:i<d.size):d.toList.getD (Int.toNat (i:Int)) Ty.org.dflt=d[i]! :=by
 rw [Int.toNat_natCast,List.getD_eq_getElem?_getD]
 simp [hi]
theorem vAH(N:Nat){i j:Nat}{d:Array Org}(hi:i<d.size)(hj:j<d.size):xAR N (i:Int) (j:Int) d.toList=some (olt d[i]! d[j]!,d.toList):=by
 unfold xAR
 rw [if_pos ⟨Int.natCast_nonneg _,by simpa using hi⟩,if_pos ⟨Int.natCast_nonneg _,by simpa using hj⟩,xOy,xTx hi,xTx hj]
 rfl
theorem vEs(N:Nat){i j:Nat}{d:Array Org}(hi:i<d.size)(hj:j<d.size):xAo N (i:Int) (j:Int) d.toList=some (swp d i j).toList:=by
 unfold xAo zI8
 rw [if_pos ⟨Int.natCast_nonneg _,by simpa using hi,Int.natCast_nonneg _,by simpa using hj⟩]
 rfl
theorem wn{x:Int}(n:Nat)(h:x=n)(hn:n<9223372036854775808):IntKind.i64.wrap x=(n:Int):=by rw [h];exact xDn (by omega) (by omega)
theorem xFU{β:Type}(N:Nat){x y:Int}{i j:Nat}{d:Array Org}(hx:x=i)(hy:y=j)(hi:i<d.size)(hj:j<d.size)(k:Bool × List Org→Option β) :
 Option.bind (xAR N x y d.toList) k=k (olt d[i]! d[j]!,d.toList):=by rw [hx,hy,vAH N hi hj];rfl
theorem xEf{β:Type}(N:Nat){x y:Int}{i j:Nat}{d:Array Org}(hx:x=i)(hy:y=j)(hi:i<d.size)(hj:j<d.size)(h2:2≤d.size)(k:List Org→Option β) :
 (Option.bind (xAo N x y d.toList) fun r=>if 2≤List.length d.toList then if List.length r=List.length d.toList then k r else none else none)=k (swp d i j).toList:=by
 rw [hx,hy,vEs N hi hj]
 show(if 2≤List.length d.toList then if List.length (swp d i j).toList=List.length d.toList then k (swp d i j).toList else none else none)=_
 rw [if_pos (by simpa using h2),if_pos (by simp [swp])]
theorem xCx{d:Array Org}{i j:Nat}:(swp d i j).size=d.size:=by simp [swp]
theorem xJ7(lt:Org→Org→Bool)(a:Nat):∀(j:Nat) (d:Array Org),(insInner lt a j d).size=d.size
 |0,d=>rfl
 |j+1,d=>by
  unfold insInner
  split
  ·rw [xJ7 lt a j,xCx]
  ·rfl
theorem ins5(N:Nat)(k:Int→Int→Int→List Org→Option (List Org)){a b i:Nat}(hi:i<4611686018427387904):∀(j n:Nat) (d:Array Org),j<d.size→2≤d.size→d.size<4611686018427387904→j<n→
 xBr N k n (a:Int) (b:Int) (i:Int) (j:Int) d.toList=k (a:Int) (b:Int) ((i+1:Nat):Int) (insInner olt a j d).toList
 |0,n,d,hj,h2,hs,hn=>by
  obtain⟨n,rfl⟩:∃m,n=m+1:=⟨n - 1,by omega⟩
  have e:(decide (((0:Nat):Int)>(a:Int)))=false:=decide_eq_false (by omega)
  rw [xBr,e,cond_false,wn (i+1) (by omega) (by omega)]
  rfl
 |j+1,n,d,hj,h2,hs,hn=>by
  obtain⟨n,rfl⟩:∃m,n=m+1:=⟨n - 1,by omega⟩
  rw [xBr,insInner]
  by_cases ha:j+1>a
  ·have e:(decide (((j+1:Nat):Int)>(a:Int)))=true:=decide_eq_true (by omega)
   rw [e,cond_true,wn (n:=j) (by omega) (by omega),xFU N rfl rfl hj (by omega)]
   dsimp only
   cases hl:olt d[j+1]! d[j]! with
   |true =>
    rw [jT,xEf N rfl rfl hj (by omega) h2,ins5 N k hi j n _ (by rw [xCx];omega) (by rw [xCx];exact h2) (by rw [xCx];exact hs) (by omega)]
    rw [if_pos (by simp [ha])]
   |false =>
    rw [jF,wn (i+1) (by omega) (by omega),if_neg (by simp)]
  ·have e:(decide (((j+1:Nat):Int)>(a:Int)))=false:=decide_eq_false (by omega)
   rw [e,cond_false,wn (i+1) (by omega) (by omega),if_neg (by simp [ha])]
theorem ins2(N:Nat){a b:Nat}:∀(m i n:Nat) (d:Array Org),b - i=m→b≤d.size→2≤d.size→d.size<4611686018427387904→i<4611686018427387904→m<n→d.size<N→
 xBq N n (a:Int) (b:Int) (i:Int) d.toList=some (insOuter olt a b i d).toList:=by
 intro m
 induction m with
 |zero =>
  intro i n d hm hb h2 hs hi hn hN
  obtain⟨n,rfl⟩:∃m,n=m+1:=⟨n - 1,by omega⟩
  have e:(decide ((i:Int)<(b:Int)))=false:=decide_eq_false (by omega)
  rw [xBq,e,cond_false,insOuter,if_neg (by omega)]
 |succ m ih =>
  intro i n d hm hb h2 hs hi hn hN
  obtain⟨n,rfl⟩:∃m,n=m+1:=⟨n - 1,by omega⟩
  have e:(decide ((i:Int)<(b:Int)))=true:=decide_eq_true (by omega)
  rw [xBq,e,cond_true,ins5 N _ hi i N d (by omega) h2 hs (by omega),insOuter,if_pos (by omega)]
  exact ih (i+1) n _ (by omega) (by rw [xJ7];exact hb) (by rw [xJ7];exact h2) (by rw [xJ7];exact hs) (by omega) (by omega) (by rw [xJ7];exact hN)
theorem vFt(N:Nat){a b:Nat}{d:Array Org}(hab:a≤b)(hb:b≤d.size)(h2:2≤d.size)(hs:d.size<1152921504606846976)(hN:d.size<N) :
 xB4 N (a:Int) (b:Int) d.toList=some (insertionSort olt d a b).toList:=by
 unfold xB4 insertionSort
 rw [wn (a+1) (by omega) (by omega)]
 exact ins2 N _ _ N d rfl hb h2 (by omega) (by omega) (by omega) hN
theorem vEq(N:Nat){hi first:Nat}(x:Int):∀(m root n:Nat) (d:Array Org),hi - root=m→root≤hi→first+hi≤d.size→2≤d.size→d.size<1152921504606846976→m<n→
 xBc N n (hi:Int) (first:Int) (root:Int) d.toList=some (siftDown olt hi first root d).toList∧(siftDown olt hi first root d).size=d.size:=by
 intro m
 induction m using Nat.strongRecOn with
 |_ m ih =>
  intro root n d hm hr hf h2 hs hn
  obtain⟨n,rfl⟩:∃m,n=m+1:=⟨n - 1,by omega⟩
  have w1:IntKind.i64.wrap (IntKind.i64.wrap (2*(root:Int))+1)=((2*root+1:Nat):Int):=by
   have e:IntKind.i64.wrap (2*(root:Int))=((2*root:Nat):Int):=wn _ (by omega) (by omega)
   rw [e];exact wn _ (by omega) (by omega)
  have w2:IntKind.i64.wrap (((2*root+1:Nat):Int)+1)=((2*root+2:Nat):Int):=wn _ (by omega) (by omega)
  rw [xBc,siftDown,w1,w2]
  by_cases hc:2*root+1≥hi
  ·have e:(decide (((2*root+1:Nat):Int)≥(hi:Int)))=true:=decide_eq_true (by omega)
   rw [e,cond_true,dif_pos hc]
   exact⟨rfl,rfl⟩
  ·have e:(decide (((2*root+1:Nat):Int)≥(hi:Int)))=false:=decide_eq_false (by omega)
   rw [e,cond_false,dif_neg hc]
   have w3:IntKind.i64.wrap ((first:Int)+((2*root+1:Nat):Int))=((first+(2*root+1):Nat):Int):=wn _ (by omega) (by omega)
   have w4:IntKind.i64.wrap (((first+(2*root+1):Nat):Int)+1)=((first+(2*root+1)+1:Nat):Int):=wn _ (by omega) (by omega)
   have w5:IntKind.i64.wrap ((first:Int)+(root:Int))=((first+root:Nat):Int):=wn _ (by omega) (by omega)
   rw [w3,w4,w5]
   have one:∀(c:Nat),c<hi→root<c→(Option.bind (xAR N ((first+root:Nat):Int) ((first+c:Nat):Int) d.toList) fun r2 =>
    bif(!r2.1) then some r2.2 else
     Option.bind (xAo N ((first+root:Nat):Int) ((first+c:Nat):Int) r2.2) fun r3 =>
     if 2≤List.length r2.2 then
     if List.length r3=List.length r2.2 then
     (xBc N n (hi:Int) (first:Int) (c:Int) r3)
     else none
     else none)=some (if !olt d[first+root]! d[first+c]! then d else siftDown olt hi first c (swp d (first+root) (first+c))).toList∧
    (if !olt d[first+root]! d[first+c]! then d else siftDown olt hi first c (swp d (first+root) (first+c))).size=d.size:=by
    intro c hc1 hc2
    rw [xFU N rfl rfl (by omega) (by omega)]
    dsimp only
    cases hl:olt d[first+root]! d[first+c]! with
    |false=>exact⟨rfl,rfl⟩
    |true =>
     have:=ih (hi - c) (by omega) c n (swp d (first+root) (first+c)) rfl (by omega) (by rw [xCx];exact hf) (by rw [xCx];exact h2) (by rw [xCx];exact hs) (by omega)
     rw [Bool.not_true,cond_false,xEf N rfl rfl (by omega) (by omega) h2]
     rw [xCx] at this
     exact this
   by_cases hd:2*root+1+1<hi
   ·have e:(decide (((2*root+2:Nat):Int)<(hi:Int)))=true:=decide_eq_true (by omega)
    have w6:IntKind.i64.wrap ((first:Int)+((2*root+2:Nat):Int))=((first+(2*root+2):Nat):Int):=wn _ (by omega) (by omega)
    rw [e,cond_true,xFU N rfl rfl (by omega) (by omega),w6]
    dsimp only
    cases hl:olt d[first+(2*root+1)]! d[first+(2*root+1)+1]! with
    |true =>
     rw [jT]
     have:=one (2*root+2) (by omega) (by omega)
     rw [if_pos (by simp [hd]),dif_pos (by omega:2*root+2<hi)]
     exact this
    |false =>
     rw [jF]
     have:=one (2*root+1) (by omega) (by omega)
     rw [if_neg (by simp)]
     exact this
   ·have e:(decide (((2*root+2:Nat):Int)<(hi:Int)))=false:=decide_eq_false (by omega)
    rw [e,cond_false,if_neg (by simp [hd])]
    exact one (2*root+1) (by omega) (by omega)
end Go.Ab
end
section
namespace Go.Ab
open Go.Sort
theorem xTS(N:Nat){hi first root:Nat}{d:Array Org}(hr:root≤hi)(hf:first+hi≤d.size)(h2:2≤d.size)(hs:d.size<1152921504606846976)(hN:d.size<N) :
 xBE N (root:Int) (hi:Int) (first:Int) d.toList=some (siftDown olt hi first root d).toList∧(siftDown olt hi first root d).size=d.size:=by
 unfold xBE
 exact vEq N 0 _ root N d rfl hr hf h2 hs (by omega)
theorem vFs(N:Nat){first:Nat}(z:Int):∀(k n:Nat) (d:Array Org),first+k≤d.size→2≤d.size→d.size<1152921504606846976→k<n→d.size<N→
 xBP N n (first:Int) 0 ((k:Int) - 1) d.toList=some (heapPop olt first k d).toList
 |0,n,d,hf,h2,hs,hn,hN=>by
  obtain⟨n,rfl⟩:∃m,n=m+1:=⟨n - 1,by omega⟩
  have e:(decide (((0:Nat):Int) - 1≥0))=false:=decide_eq_false (by omega)
  rw [xBP,e,cond_false]
  rfl
 |k+1,n,d,hf,h2,hs,hn,hN=>by
  obtain⟨n,rfl⟩:∃m,n=m+1:=⟨n - 1,by omega⟩
  have e:(decide (((k+1:Nat):Int) - 1≥0))=true:=decide_eq_true (by omega)
  have e1:((k+1:Nat):Int) - 1=(k:Int):=by omega
  have w:IntKind.i64.wrap ((first:Int)+(k:Int))=((first+k:Nat):Int):=wn _ (by omega) (by omega)
  have w2:IntKind.i64.wrap ((k:Int) - 1)=(k:Int) - 1:=xDn (by omega) (by omega)
  rw [xBP,e,cond_true,e1,w,xEf N rfl rfl (by omega) (by omega) h2,w2]
  obtain⟨s1,s2⟩:=xTS N (hi:=k) (first:=first) (root:=0) (d:=swp d first (first+k)) (by omega) (by rw [xCx];omega) (by rw [xCx];exact h2) (by rw [xCx];exact hs) (by rw [xCx];exact hN)
  have s1:xBE N 0 (k:Int) (first:Int) (swp d first (first+k)).toList=_:=s1
  rw [s1,heapPop]
  exact vFs N z k n _ (by rw [s2,xCx];omega) (by rw [s2,xCx];exact h2) (by rw [s2,xCx];exact hs) (by omega) (by rw [s2,xCx];exact hN)
theorem vFr(N:Nat){first hi:Nat}:∀(k n:Nat) (d:Array Org),k≤hi+1→first+hi≤d.size→2≤d.size→d.size<1152921504606846976→k<n→d.size<N→
 xBO N n (first:Int) 0 (hi:Int) ((k:Int) - 1) d.toList=some (heapPop olt first hi (heapBuild olt hi first k d)).toList
 |0,n,d,hk,hf,h2,hs,hn,hN=>by
  obtain⟨n,rfl⟩:∃m,n=m+1:=⟨n - 1,by omega⟩
  have e:(decide (((0:Nat):Int) - 1≥0))=false:=decide_eq_false (by omega)
  have w2:IntKind.i64.wrap ((hi:Int) - 1)=(hi:Int) - 1:=xDn (by omega) (by omega)
  rw [xBO,e,cond_false,w2]
  exact vFs N 0 hi N d hf h2 hs (by omega) hN
 |k+1,n,d,hk,hf,h2,hs,hn,hN=>by
  obtain⟨n,rfl⟩:∃m,n=m+1:=⟨n - 1,by omega⟩
  have e:(decide (((k+1:Nat):Int) - 1≥0))=true:=decide_eq_true (by omega)
  have e1:((k+1:Nat):Int) - 1=(k:Int):=by omega
  have w2:IntKind.i64.wrap ((k:Int) - 1)=(k:Int) - 1:=xDn (by omega) (by omega)
  rw [xBO,e,cond_true,e1,w2]
  obtain⟨s1,s2⟩:=xTS N (hi:=hi) (first:=first) (root:=k) (d:=d) (by omega) hf h2 hs hN
  rw [s1,heapBuild]
  exact vFr N k n _ (by omega) (by rw [s2];exact hf) (by rw [s2];exact h2) (by rw [s2];exact hs) (by omega) (by rw [s2];exact hN)
theorem vAF(N:Nat){a b:Nat}{d:Array Org}(hab:a<b)(hb:b≤d.size)(h2:2≤d.size)(hs:d.size<1152921504606846976)(hN:d.size+1<N) :
 xCw N (a:Int) (b:Int) d.toList=some (heapSort olt d a b).toList:=by
 unfold xCw heapSort
 have w1:IntKind.i64.wrap ((b:Int) - (a:Int))=((b - a:Nat):Int):=wn _ (by omega) (by omega)
 have w2:IntKind.i64.wrap (((b - a:Nat):Int) - 1)=((b - a - 1:Nat):Int):=wn _ (by omega) (by omega)
 have w3:IntKind.i64.wrap (Int.tdiv ((b - a - 1:Nat):Int) 2)=(((b - a - 1) / 2+1:Nat):Int) - 1:=by
  have:Int.tdiv ((b - a - 1:Nat):Int) 2=(((b - a - 1) / 2:Nat):Int):=rfl
  rw [this,wn ((b - a - 1) / 2) rfl (by omega)]
  omega
 rw [w1,w2,w3]
 exact vFr N _ N d (by omega) (by omega) h2 hs (by omega) (by omega)
theorem rev3(N:Nat):∀(m i j n:Nat) (d:Array Org),j - i≤m→i<d.size→j<d.size→2≤d.size→d.size<1152921504606846976→m<n→
 xBx N n (i:Int) (j:Int) d.toList=some (reverseLoop i j d).toList:=by
 intro m
 induction m with
 |zero =>
  intro i j n d hm hi hj h2 hs hn
  obtain⟨n,rfl⟩:∃m,n=m+1:=⟨n - 1,by omega⟩
  have e:(decide ((i:Int)<(j:Int)))=false:=decide_eq_false (by omega)
  rw [xBx,e,cond_false,reverseLoop,if_neg (by omega)]
 |succ m ih =>
  intro i j n d hm hi hj h2 hs hn
  obtain⟨n,rfl⟩:∃m,n=m+1:=⟨n - 1,by omega⟩
  rw [xBx,reverseLoop]
  by_cases h:i<j
  ·have e:(decide ((i:Int)<(j:Int)))=true:=decide_eq_true (by omega)
   have w1:IntKind.i64.wrap ((i:Int)+1)=((i+1:Nat):Int):=wn _ (by omega) (by omega)
   have w2:IntKind.i64.wrap ((j:Int) - 1)=((j - 1:Nat):Int):=wn _ (by omega) (by omega)
   rw [e,cond_true,xEf N rfl rfl hi hj h2,if_pos h,w1,w2]
   exact ih (i+1) (j - 1) n _ (by omega) (by rw [xCx];omega) (by rw [xCx];omega) (by rw [xCx];exact h2) (by rw [xCx];exact hs) (by omega)
  ·have e:(decide ((i:Int)<(j:Int)))=false:=decide_eq_false (by omega)
   rw [e,cond_false,if_neg h]
theorem vFX(N:Nat){a b:Nat}{d:Array Org}(hab:a<b)(hb:b≤d.size)(h2:2≤d.size)(hs:d.size<1152921504606846976)(hN:d.size<N) :
 xB8 N (a:Int) (b:Int) d.toList=some (reverseRange d a b).toList:=by
 unfold xB8 reverseRange
 have w2:IntKind.i64.wrap ((b:Int) - 1)=((b - 1:Nat):Int):=wn _ (by omega) (by omega)
 rw [w2]
 exact rev3 N _ a (b - 1) N d (Nat.le_refl _) (by omega) (by omega) h2 hs (by omega)
theorem xLF{p:Org→Bool}{d:Array Org}{j i:Nat}(h:i≤j)(hp:p d[i]! =true):scanUp p d j i=scanUp p d j (i+1):=by
 rw [scanUp,if_pos (by simp [h,hp])]
theorem xH5{p:Org→Bool}{d:Array Org}{j i:Nat}(h:¬(i≤j∧p d[i]! =true)):scanUp p d j i=i:=by
 rw [scanUp,if_neg (by simpa using h)]
theorem xJX{p:Org→Bool}{d:Array Org}{j i:Nat}(h:i≤j+1)(hp:p d[j+1]! =true):scanDown p d i (j+1)=scanDown p d i j:=by
 rw [scanDown,if_pos (by simp [h,hp])]
theorem xGl{p:Org→Bool}{d:Array Org}{j i:Nat}(h:¬(i≤j+1∧p d[j+1]! =true)):scanDown p d i (j+1)=j+1:=by
 rw [scanDown,if_neg (by simpa using h)]
abbrev pUp(d:Array Org)(a:Nat):Org→Bool:=fun x=>olt x d[a]!
abbrev pDn(d:Array Org)(a:Nat):Org→Bool:=fun x=> !olt x d[a]!
theorem xSa{p:Org→Bool}{d:Array Org}:∀(m i j:Nat),j+1 - i=m→i≤j+1→i≤scanUp p d j i∧scanUp p d j i≤j+1:=by
 intro m
 induction m with
 |zero=>intro i j hm hi;rw [xH5 (by omega)];omega
 |succ m ih =>
  intro i j hm hi
  by_cases h:i≤j∧p d[i]! =true
  ·rw [xLF h.1 h.2]
   have:=ih (i+1) j (by omega) (by omega)
   omega
  ·rw [xH5 h];omega
theorem xI0{p:Org→Bool}{d:Array Org}{i:Nat}(hi:0<i):∀(j:Nat),i≤j+1→i≤scanDown p d i j+1∧scanDown p d i j≤j
 |0,h=>by simp [scanDown];omega
 |j+1,h=>by
  by_cases h2:i≤j+1∧p d[j+1]! =true
  ·rw [xJX h2.1 h2.2]
   have:=xI0 (p:=p) (d:=d) hi j (by omega)
   omega
  ·rw [xGl h2];omega
theorem xJs{p:Org→Bool}{d:Array Org}{i:Nat}(hi:0<i):∀(j:Nat),i≤j+1→i≤scanDown p d i j→p d[scanDown p d i j]! =false
 |0,h,h3=>by simp [scanDown] at h3;omega
 |j+1,h,h3=>by
  by_cases h2:i≤j+1∧p d[j+1]! =true
  ·rw [xJX h2.1 h2.2] at h3 ⊢
   exact xJs hi j (by omega) h3
  ·rw [xGl h2] at h3 ⊢
   cases hp:p d[j+1]! with
   |false=>rfl
   |true=>exact absurd ⟨h3,hp⟩ h2
theorem xTn{p:Org→Bool}{d:Array Org}:∀(m i j:Nat),j+1 - i=m→scanUp p d j i≤j→p d[scanUp p d j i]! =false:=by
 intro m
 induction m with
 |zero=>intro i j hm h;rw [xH5 (by omega)] at h;omega
 |succ m ih =>
  intro i j hm h
  by_cases h2:i≤j∧p d[i]! =true
  ·rw [xLF h2.1 h2.2] at h ⊢
   exact ih (i+1) j (by omega) h
  ·rw [xH5 h2] at h ⊢
   cases hp:p d[i]! with
   |false=>rfl
   |true=>exact absurd ⟨h,hp⟩ h2
theorem vAl(N:Nat)(k:Int→Int→Int→List Org→Option (Int × Bool × List Org)){a i:Nat}:∀(j n:Nat) (d:Array Org),a<i→i≤j+1→j<d.size→2≤d.size→d.size<1152921504606846976→j<n→
 xA5 N k n (a:Int) (i:Int) (j:Int) d.toList =
  (if i>scanDown (pDn d a) d i j then some (((scanDown (pDn d a) d i j:Nat):Int),false,(swp d (scanDown (pDn d a) d i j) a).toList)
   else k (a:Int) ((i+1:Nat):Int) ((scanDown (pDn d a) d i j - 1:Nat):Int) (swp d i (scanDown (pDn d a) d i j)).toList)
 |0,n,d,ha,hij,hj,h2,hs,hn=>by
  obtain⟨n,rfl⟩:∃m,n=m+1:=⟨n - 1,by omega⟩
  have e:(decide ((i:Int)≤((0:Nat):Int)))=false:=decide_eq_false (by omega)
  have e2:(decide ((i:Int)>((0:Nat):Int)))=true:=decide_eq_true (by omega)
  rw [xA5,e,cond_false,e2,cond_true,xEf N rfl rfl hj (by omega) h2,scanDown,if_pos (by omega)]
 |j+1,n,d,ha,hij,hj,h2,hs,hn=>by
  obtain⟨n,rfl⟩:∃m,n=m+1:=⟨n - 1,by omega⟩
  have wi:IntKind.i64.wrap ((i:Int)+1)=((i+1:Nat):Int):=wn _ (by omega) (by omega)
  have wj:IntKind.i64.wrap (((j+1:Nat):Int) - 1)=((j:Nat):Int):=wn _ (by omega) (by omega)
  rw [xA5,wi,wj]
  by_cases h:i≤j+1
  ·have e:(decide ((i:Int)≤((j+1:Nat):Int)))=true:=decide_eq_true (by omega)
   have e2:(decide ((i:Int)>((j+1:Nat):Int)))=false:=decide_eq_false (by omega)
   rw [e,cond_true,xFU N rfl rfl hj (by omega),e2,cond_false]
   dsimp only
   cases hl:olt d[j+1]! d[a]! with
   |false =>
    rw [Bool.not_false,cond_true,vAl N k j n d ha (by omega) (by omega) h2 hs (by omega),xJX (p:=pDn d a) h (by simp [pDn,hl])]
   |true =>
    rw [Bool.not_true,cond_false,xEf N rfl rfl (by omega) hj h2,xGl (p:=pDn d a) (by simp [pDn,hl]),if_neg (by omega)]
    rfl
  ·have e:(decide ((i:Int)≤((j+1:Nat):Int)))=false:=decide_eq_false (by omega)
   have e2:(decide ((i:Int)>((j+1:Nat):Int)))=true:=decide_eq_true (by omega)
   rw [e,cond_false,e2,cond_true,xEf N rfl rfl hj (by omega) h2,xGl (p:=pDn d a) (by omega),if_pos (by omega)]
theorem vFQ(N:Nat){a:Nat}:∀(m i j n:Nat) (d:Array Org),j+1 - i=m→a<i→i≤j+1→j<d.size→2≤d.size→d.size<1152921504606846976→m<n→d.size<N→
 xAO N n (a:Int) (i:Int) (j:Int) d.toList=some (((partLoop olt a i j d).1:Int),false,(swp (partLoop olt a i j d).2 (partLoop olt a i j d).1 a).toList):=by
 intro m
 induction m using Nat.strongRecOn with
 |_ m ih =>
  intro i j n d hm ha hij hj h2 hs hn hN
  obtain⟨n,rfl⟩:∃m,n=m+1:=⟨n - 1,by omega⟩
  have wi:IntKind.i64.wrap ((i:Int)+1)=((i+1:Nat):Int):=wn _ (by omega) (by omega)
  rw [xAO,wi]
  have stop:∀(hc:¬(i≤j∧pUp d a d[i]! =true)),xA5 N (fun z0 z1 z2 z3=>(xAO N n z0 z1 z2 z3)) N (a:Int) (i:Int) (j:Int) d.toList =
   some (((partLoop olt a i j d).1:Int),false,(swp (partLoop olt a i j d).2 (partLoop olt a i j d).1 a).toList):=by
   intro hc
   rw [vAl N _ j N d ha hij hj h2 hs (by omega),partLoop_eq,xH5 (p:=pUp d a) hc]
   have hb:=xI0 (p:=pDn d a) (d:=d) (by omega:0<i) j hij
   split
   ·rfl
   ·rename_i hg
    have hne:i≠scanDown (pDn d a) d i j:=by
     intro e
     have h1:=xJs (p:=pDn d a) (d:=d) (by omega:0<i) j hij (by omega)
     rw [←e] at h1
     have h2:pUp d a d[i]! =true:=by simpa [pDn,pUp] using h1
     exact hc ⟨by omega,h2⟩
    exact ih (scanDown (pDn d a) d i j - 1+1 - (i+1)) (by omega) (i+1) (scanDown (pDn d a) d i j - 1) n _ rfl (by omega) (by omega) (by rw [xCx];omega) (by rw [xCx];exact h2) (by rw [xCx];exact hs) (by omega) (by rw [xCx];exact hN)
  by_cases h:i≤j
  ·have e:(decide ((i:Int)≤(j:Int)))=true:=decide_eq_true (by omega)
   rw [e,cond_true,xFU N rfl rfl (by omega) (by omega)]
   dsimp only
   cases hl:olt d[i]! d[a]! with
   |true =>
    rw [jT,ih (m - 1) (by omega) (i+1) j n d (by omega) (by omega) (by omega) hj h2 hs (by omega) hN]
    have:partLoop olt a i j d=partLoop olt a (i+1) j d:=by
     rw [partLoop_eq,partLoop_eq (i:=i+1),xLF (p:=pUp d a) h (by simp [pUp,hl])]
    rw [this]
   |false=>rw [jF];exact stop (by simp [pUp,hl])
  ·have e:(decide ((i:Int)≤(j:Int)))=false:=decide_eq_false (by omega)
   rw [e,cond_false];exact stop (by omega)
theorem vFR(N:Nat){a i:Nat}:∀(j n:Nat) (d:Array Org),a<i→i≤j+1→j<d.size→2≤d.size→d.size<1152921504606846976→j<n→
 xA9 N n (a:Int) (i:Int) (j:Int) d.toList =
  (if i>scanDown (pDn d a) d i j then some (((scanDown (pDn d a) d i j:Nat):Int),true,(swp d (scanDown (pDn d a) d i j) a).toList)
   else xAO N N (a:Int) ((i+1:Nat):Int) ((scanDown (pDn d a) d i j - 1:Nat):Int) (swp d i (scanDown (pDn d a) d i j)).toList)
 |0,n,d,ha,hij,hj,h2,hs,hn=>by
  obtain⟨n,rfl⟩:∃m,n=m+1:=⟨n - 1,by omega⟩
  have e:(decide ((i:Int)≤((0:Nat):Int)))=false:=decide_eq_false (by omega)
  have e2:(decide ((i:Int)>((0:Nat):Int)))=true:=decide_eq_true (by omega)
  rw [xA9,e,cond_false,e2,cond_true,xEf N rfl rfl hj (by omega) h2,scanDown,if_pos (by omega)]
 |j+1,n,d,ha,hij,hj,h2,hs,hn=>by
  obtain⟨n,rfl⟩:∃m,n=m+1:=⟨n - 1,by omega⟩
  have wi:IntKind.i64.wrap ((i:Int)+1)=((i+1:Nat):Int):=wn _ (by omega) (by omega)
  have wj:IntKind.i64.wrap (((j+1:Nat):Int) - 1)=((j:Nat):Int):=wn _ (by omega) (by omega)
  rw [xA9,wi,wj]
  by_cases h:i≤j+1
  ·have e:(decide ((i:Int)≤((j+1:Nat):Int)))=true:=decide_eq_true (by omega)
   have e2:(decide ((i:Int)>((j+1:Nat):Int)))=false:=decide_eq_false (by omega)
   rw [e,cond_true,xFU N rfl rfl hj (by omega),e2,cond_false]
   dsimp only
   cases hl:olt d[j+1]! d[a]! with
   |false =>
    rw [Bool.not_false,cond_true,vFR N j n d ha (by omega) (by omega) h2 hs (by omega),xJX (p:=pDn d a) h (by simp [pDn,hl])]
   |true =>
    rw [Bool.not_true,cond_false,xEf N rfl rfl (by omega) hj h2,xGl (p:=pDn d a) (by simp [pDn,hl]),if_neg (by omega)]
    rfl
  ·have e:(decide ((i:Int)≤((j+1:Nat):Int)))=false:=decide_eq_false (by omega)
   have e2:(decide ((i:Int)>((j+1:Nat):Int)))=true:=decide_eq_true (by omega)
   rw [e,cond_false,e2,cond_true,xEf N rfl rfl hj (by omega) h2,xGl (p:=pDn d a) (by omega),if_pos (by omega)]
theorem vHp(N:Nat){a j:Nat}:∀(m i n:Nat) (d:Array Org),j+1 - i=m→a<i→i≤j+1→j<d.size→2≤d.size→d.size<1152921504606846976→m<n→d.size<N→
 xBH N n (a:Int) (i:Int) (j:Int) d.toList=xA9 N N (a:Int) ((scanUp (pUp d a) d j i:Nat):Int) (j:Int) d.toList:=by
 intro m
 induction m with
 |zero =>
  intro i n d hm ha hij hj h2 hs hn hN
  obtain⟨n,rfl⟩:∃m,n=m+1:=⟨n - 1,by omega⟩
  have e:(decide ((i:Int)≤(j:Int)))=false:=decide_eq_false (by omega)
  rw [xBH,e,cond_false,xH5 (by omega)]
 |succ m ih =>
  intro i n d hm ha hij hj h2 hs hn hN
  obtain⟨n,rfl⟩:∃m,n=m+1:=⟨n - 1,by omega⟩
  have wi:IntKind.i64.wrap ((i:Int)+1)=((i+1:Nat):Int):=wn _ (by omega) (by omega)
  have e:(decide ((i:Int)≤(j:Int)))=true:=decide_eq_true (by omega)
  rw [xBH,wi,e,cond_true,xFU N rfl rfl (by omega) (by omega)]
  dsimp only
  cases hl:olt d[i]! d[a]! with
  |true=>rw [jT,ih (i+1) n d (by omega) (by omega) (by omega) hj h2 hs (by omega) hN,xLF (p:=pUp d a) (i:=i) (j:=j) (by omega) (by simp [pUp,hl])]
  |false=>rw [jF,xH5 (p:=pUp d a) (by simp [pUp,hl])]
theorem vEn(N:Nat){a b pivot:Nat}{d:Array Org}(hp1:a≤pivot)(hp2:pivot<b)(hb:b≤d.size)(hab:a+1<b)(h2:2≤d.size)(hs:d.size<1152921504606846976)(hN:d.size<N) :
 xCp N (a:Int) (b:Int) (pivot:Int) d.toList=some (((partition olt d a b pivot).1:Int),(partition olt d a b pivot).2.1,(partition olt d a b pivot).2.2.toList):=by
 have wa:IntKind.i64.wrap ((a:Int)+1)=((a+1:Nat):Int):=wn _ (by omega) (by omega)
 have wb:IntKind.i64.wrap ((b:Int) - 1)=((b - 1:Nat):Int):=wn _ (by omega) (by omega)
 have hs1:(swp d a pivot).size=d.size:=xCx
 unfold xCp partition
 rw [xEf N rfl rfl (by omega) (by omega) h2,wa,wb]
 generalize swp d a pivot=d1 at hs1
 have hu:=xSa (p:=pUp d1 a) (d:=d1) _ (a+1) (b - 1) rfl (by omega)
 rw [vHp N _ (a+1) N d1 rfl (by omega) (by omega) (by omega) (by omega) (by omega) (by omega) (by omega),vFR N (b - 1) N d1 (by omega) (by omega) (by omega) (by omega) (by omega) (by omega)]
 have hd:=xI0 (p:=pDn d1 a) (d:=d1) (i:=scanUp (pUp d1 a) d1 (b - 1) (a+1)) (by omega) (b - 1) (by omega)
 dsimp only
 by_cases hc:scanUp (pUp d1 a) d1 (b - 1) (a+1)>scanDown (pDn d1 a) d1 (scanUp (pUp d1 a) d1 (b - 1) (a+1)) (b - 1)
 ·rw [if_pos hc,if_pos hc]
 ·have hne:scanUp (pUp d1 a) d1 (b - 1) (a+1)≠scanDown (pDn d1 a) d1 (scanUp (pUp d1 a) d1 (b - 1) (a+1)) (b - 1):=by
   intro e
   have h1:=xJs (p:=pDn d1 a) (d:=d1) (i:=scanUp (pUp d1 a) d1 (b - 1) (a+1)) (by omega) (b - 1) (by omega) (by omega)
   rw [←e] at h1
   have h2:=xTn (p:=pUp d1 a) (d:=d1) _ (a+1) (b - 1) rfl (by omega)
   simp only [pDn,pUp] at h1 h2
   rw [h2] at h1
   cases h1
  rw [if_neg hc,if_neg hc]
  exact vFQ N _ _ _ N _ rfl (by omega) (by omega) (by rw [xCx];omega) (by rw [xCx];omega) (by rw [xCx];omega) (by omega) (by rw [xCx];omega)
end Go.Ab
end
