/- The statement FnJoin holds: plain functions, certificates, laws. Conditions: none. -/
import Derived.Maps.AppendAt
import Derived.Maps.OwnSet
import Derived.Shelf.GgSortFunc.Slice
import Derived.Shelf.GgSortFunc.Tiny
import Derived.Shelf.Small.Bits
import Derived.Sort.AssemblyPlain
import Derived.Test.YtchkdijelkdpaaaGreatChecked
import Derived.Test.YtchkdijelkdpaaaGreatProg
import Derived.Test.YtchkdijelkdpaaaGreatRows
import Derived.WalkKit
import Derived.Test.YtchkdijelkdpaaaGreatL2
set_option linter.all false
section
namespace Go.Ab
abbrev Cu(f:Fl)(e:Cur):List CV:= [.sl f .byte (Cur.b e), .int .i64 (Cur.i e), .int .i64 (Cur.h e)]
abbrev Va(f:Fl)(e:Val):List CV:= [.int .i64 (Val.kind e), .int .i64 (Val.n e), .int .i64 (Val.step e), .str (Val.text e), .sl f .val (Val.list e), .sl f .str (Val.columns e), .sl f .row (Val.rows e)]
end Go.Ab
end
section
namespace Go.Ab
def xEc(a0:Int):List Arg:= [.box [.int .u64 a0]]
def xCS(r:Int × Int):CallO:=⟨.v false [.int .u64 r.1], [[.int .u64 r.2]], []⟩
def xFk(N:Nat)(a0:Int):Option (Int × Int):=some ((xorI .u64 (xorI .u64 (xorI .u64 a0 (IntKind.u64.wrap (a0*2 ^ (Int.toNat 13)))) (Int.fdiv (xorI .u64 a0 (IntKind.u64.wrap (a0*2 ^ (Int.toNat 13)))) ((2:Int) ^ (Int.toNat 7)))) (IntKind.u64.wrap ((xorI .u64 (xorI .u64 a0 (IntKind.u64.wrap (a0*2 ^ (Int.toNat 13)))) (Int.fdiv (xorI .u64 a0 (IntKind.u64.wrap (a0*2 ^ (Int.toNat 13)))) ((2:Int) ^ (Int.toNat 7))))*2 ^ (Int.toNat 17)))),(xorI .u64 (xorI .u64 (xorI .u64 a0 (IntKind.u64.wrap (a0*2 ^ (Int.toNat 13)))) (Int.fdiv (xorI .u64 a0 (IntKind.u64.wrap (a0*2 ^ (Int.toNat 13)))) ((2:Int) ^ (Int.toNat 7)))) (IntKind.u64.wrap ((xorI .u64 (xorI .u64 a0 (IntKind.u64.wrap (a0*2 ^ (Int.toNat 13)))) (Int.fdiv (xorI .u64 a0 (IntKind.u64.wrap (a0*2 ^ (Int.toNat 13)))) ((2:Int) ^ (Int.toNat 7))))*2 ^ (Int.toNat 17)))))
def xKf(a0:Int):List Arg:= [.val (.v false [.int .u64 a0])]
def xIh(r:Int):CallO:=⟨.v false [.int .i64 r], [], []⟩
def xJ0(N:Nat)(a0:Int):Option Int:=zFJ a0
def xE8(a0:Int):List Arg:= [.val (.v false [.int .i64 a0])]
def xDP(r:Int):CallO:=⟨.v false [.int .u64 r], [], []⟩
def xEY(N:Nat)(a0:Int):Option (Int):=(xJ0 N (IntKind.u64.wrap (a0))).bind fun r1=>if(0:Int)≤(IntKind.u64.wrap (r1))∧(IntKind.u64.wrap (r1))<64 then some (IntKind.u64.wrap (1*2 ^ (Int.toNat (IntKind.u64.wrap (r1))))) else none
def xAn(a0 a1:Int)(a2:List Org):List Arg:= [.val (.v false [.int .i64 a0]), .val (.v false [.int .i64 a1]), .val (.v false [.sl (.lnt 0) .org a2]), .val (.v false [.val (.pointer (some ⟨0,80,none⟩))])]
def xAa(r:(List Org)):CallO:=⟨.tup [], [], [.sl (.lnt 0) .org r]⟩
def xAf(N:Nat)(a0 a1:Int)(a2:List Org):Option (List Org):=zI8 a0 a1 a2
def xB7(a0:Int)(a1:Int)(a2:List Org):List Arg:= [.val (.v true [.clo 64 [1000003], .swp 141 0 (.pointer (some ⟨0,80,none⟩)) 1000003]), .val (.v false [.int .i64 a0]), .val (.v false [.int .i64 a1]), .gbox [.sl (.lnt 0) .org a2]]
def xBc(r:(List Org)):CallO:=⟨.tup [], [[.sl (.lnt 0) .org r]], []⟩
def xBb(N:Nat):Nat→Int→Int→(List Org)→Option ((List Org))
 |0,_,_,_=>none
 |n+1,x6,x7,b1000003=>bif(decide (x6<x7)) then((xAf N x6 x7 b1000003).bind fun r1=>if 2≤List.length b1000003 then if List.length r1=List.length b1000003 then(xBb N n (IntKind.i64.wrap (x6+1)) (IntKind.i64.wrap (x7 - 1)) r1) else none else none) else(some b1000003)
def xBP(N:Nat)(a0:Int)(a1:Int)(a2:List Org):Option ((List Org)):=(xBb N N a0 (IntKind.i64.wrap (a1 - 1)) a2)
def xBA(a0:Int)(a1:Int)(a2:List Org):List Arg:= [.val (.v true [.clo 64 [1000003], .swp 141 0 (.pointer (some ⟨0,80,none⟩)) 1000003]), .val (.v false [.int .i64 a0]), .val (.v false [.int .i64 a1]), .gbox [.sl (.lnt 0) .org a2]]
def xAV(r:(List Org)):CallO:=⟨.tup [], [[.sl (.lnt 0) .org r]], []⟩
def xAU(N:Nat):Nat→Int→Int→Int→Int→Int→(List Org)→Option ((List Org))
 |0,_,_,_,_,_,_=>none
 |n+1,x1,x6,x8,x9,b7,b1000003=>bif(decide (x9≤(IntKind.i64.wrap ((IntKind.i64.wrap (x1+(IntKind.i64.wrap ((IntKind.i64.wrap (Int.tdiv x6 4))*2))))+1)))) then((xFk N b7).bind fun r1=>bif(decide (((IntKind.i64.wrap ((andI .u64 r1.1 (IntKind.u64.wrap (x8 - 1))))):Int)≥x6)) then((xAf N x9 (IntKind.i64.wrap (x1+(IntKind.i64.wrap ((IntKind.i64.wrap ((andI .u64 r1.1 (IntKind.u64.wrap (x8 - 1))))) - x6)))) b1000003).bind fun r2=>if 2≤List.length b1000003 then if List.length r2=List.length b1000003 then(xAU N n x1 x6 x8 (IntKind.i64.wrap (x9+1)) r1.2 r2) else none else none) else((xAf N x9 (IntKind.i64.wrap (x1+(IntKind.i64.wrap ((andI .u64 r1.1 (IntKind.u64.wrap (x8 - 1))))))) b1000003).bind fun r2=>if 2≤List.length b1000003 then if List.length r2=List.length b1000003 then(xAU N n x1 x6 x8 (IntKind.i64.wrap (x9+1)) r1.2 r2) else none else none)) else(some b1000003)
def xBK(N:Nat)(a0:Int)(a1:Int)(a2:List Org):Option ((List Org)):=bif(decide ((IntKind.i64.wrap (a1 - a0))≥8)) then((xEY N (IntKind.i64.wrap (a1 - a0))).bind fun r1=>(xAU N N a0 (IntKind.i64.wrap (a1 - a0)) r1 (IntKind.i64.wrap ((IntKind.i64.wrap (a0+(IntKind.i64.wrap ((IntKind.i64.wrap (Int.tdiv (IntKind.i64.wrap (a1 - a0)) 4))*2)))) - 1)) (IntKind.u64.wrap ((IntKind.i64.wrap (a1 - a0)))) a2)) else(some a2)
def xCH(a0:Org)(a1:Org):List Arg:= [.val (.v true [.int .i64 (Org.cell a0), .int .i64 (Org.row a0)]), .val (.v true [.int .i64 (Org.cell a1), .int .i64 (Org.row a1)])]
def xBS(r:Bool):CallO:=⟨.v false [.bool r], [], []⟩
def xDT(N:Nat)(a0:Org)(a1:Org):Option (Bool):=bif(decide ((Org.cell a0)<(Org.cell a1))) then(some true) else(bif((Org.cell a0)==(Org.cell a1)) then(some (decide ((Org.row a0)<(Org.row a1)))) else(some false))
def xA0(a0:Int)(a1:Int)(a2:List Org):List Arg:= [.val (.v false [.int .i64 a0]), .val (.v false [.int .i64 a1]), .box [.sl (.lnt 0) .org a2]]
def xAc(r:Bool × (List Org)):CallO:=⟨.v false [.bool r.1], [[.sl (.lnt 0) .org r.2]], []⟩
def xAD(N:Nat)(a0:Int)(a1:Int)(a2:List Org):Option (Bool × (List Org)):=if(0:Int)≤a0∧a0<(List.length a2) then if(0:Int)≤a1∧a1<(List.length a2) then(xDT N (List.getD a2 (Int.toNat a0) Ty.org.dflt) (List.getD a2 (Int.toNat a1) Ty.org.dflt)).bind fun r1=>some (r1,a2) else none else none
def xBO(a0:Int)(a1:Int)(a2:Int)(a3:List Org):List Arg:= [.val (.v true [.clo 64 [1000004], .swp 141 0 (.pointer (some ⟨0,80,none⟩)) 1000004]), .val (.v false [.int .i64 a0]), .val (.v false [.int .i64 a1]), .val (.v false [.int .i64 a2]), .gbox [.sl (.lnt 0) .org a3]]
def xAo(r:Int × Bool × (List Org)):CallO:=⟨.tup [(false, [.int .i64 r.1]),(false, [.bool r.2.1])], [[.sl (.lnt 0) .org r.2.2]], []⟩
def xAP(N:Nat)(k13:Int→Int→Int→(List Org)→Option (Int × Bool × (List Org))):Nat→Int→Int→Int→(List Org)→Option (Int × Bool × (List Org))
 |0,_,_,_,_=>none
 |n+1,x1,x10,x11,b1000004=>bif(decide (x10≤x11)) then((xAD N x11 x1 b1000004).bind fun r1=>bif(!r1.1) then((xAP N k13 n x1 x10 (IntKind.i64.wrap (x11 - 1)) r1.2)) else(bif(decide (x10>x11)) then((xAf N x11 x1 r1.2).bind fun r2=>if 2≤List.length r1.2 then if List.length r2=List.length r1.2 then some (x11,false,r2) else none else none) else((xAf N x10 x11 r1.2).bind fun r2=>if 2≤List.length r1.2 then if List.length r2=List.length r1.2 then(k13 x1 (IntKind.i64.wrap (x10+1)) (IntKind.i64.wrap (x11 - 1)) r2) else none else none))) else(bif(decide (x10>x11)) then((xAf N x11 x1 b1000004).bind fun r1=>if 2≤List.length b1000004 then if List.length r1=List.length b1000004 then some (x11,false,r1) else none else none) else((xAf N x10 x11 b1000004).bind fun r1=>if 2≤List.length b1000004 then if List.length r1=List.length b1000004 then(k13 x1 (IntKind.i64.wrap (x10+1)) (IntKind.i64.wrap (x11 - 1)) r1) else none else none))
def xAz(N:Nat):Nat→Int→Int→Int→(List Org)→Option (Int × Bool × (List Org))
 |0,_,_,_,_=>none
 |n+1,x1,x10,x11,b1000004=>bif(decide (x10≤x11)) then((xAD N x10 x1 b1000004).bind fun r1=>bif r1.1 then((xAz N n x1 (IntKind.i64.wrap (x10+1)) x11 r1.2)) else((xAP N (fun z0 z1 z2 z3=>(xAz N n z0 z1 z2 z3)) N x1 x10 x11 r1.2))) else((xAP N (fun z0 z1 z2 z3=>(xAz N n z0 z1 z2 z3)) N x1 x10 x11 b1000004))
def xAT(N:Nat):Nat→Int→Int→Int→(List Org)→Option (Int × Bool × (List Org))
 |0,_,_,_,_=>none
 |n+1,x1,x10,x11,b1000004=>bif(decide (x10≤x11)) then((xAD N x11 x1 b1000004).bind fun r1=>bif(!r1.1) then((xAT N n x1 x10 (IntKind.i64.wrap (x11 - 1)) r1.2)) else(bif(decide (x10>x11)) then((xAf N x11 x1 r1.2).bind fun r2=>if 2≤List.length r1.2 then if List.length r2=List.length r1.2 then some (x11,true,r2) else none else none) else((xAf N x10 x11 r1.2).bind fun r2=>if 2≤List.length r1.2 then if List.length r2=List.length r1.2 then(xAz N N x1 (IntKind.i64.wrap (x10+1)) (IntKind.i64.wrap (x11 - 1)) r2) else none else none))) else(bif(decide (x10>x11)) then((xAf N x11 x1 b1000004).bind fun r1=>if 2≤List.length b1000004 then if List.length r1=List.length b1000004 then some (x11,true,r1) else none else none) else((xAf N x10 x11 b1000004).bind fun r1=>if 2≤List.length b1000004 then if List.length r1=List.length b1000004 then(xAz N N x1 (IntKind.i64.wrap (x10+1)) (IntKind.i64.wrap (x11 - 1)) r1) else none else none))
def xBm(N:Nat):Nat→Int→Int→Int→(List Org)→Option (Int × Bool × (List Org))
 |0,_,_,_,_=>none
 |n+1,x1,x10,x11,b1000004=>bif(decide (x10≤x11)) then((xAD N x10 x1 b1000004).bind fun r1=>bif r1.1 then((xBm N n x1 (IntKind.i64.wrap (x10+1)) x11 r1.2)) else((xAT N N x1 x10 x11 r1.2))) else((xAT N N x1 x10 x11 b1000004))
def xB4(N:Nat)(a0:Int)(a1:Int)(a2:Int)(a3:List Org):Option (Int × Bool × (List Org)):=(xAf N a0 a2 a3).bind fun r1=>if 2≤List.length a3 then if List.length r1=List.length a3 then(xBm N N a0 (IntKind.i64.wrap (a0+1)) (IntKind.i64.wrap (a1 - 1)) r1) else none else none
def xBY(a0:Int)(a1:Int)(a2:Int)(a3:List Org):List Arg:= [.val (.v true [.clo 64 [1000004], .swp 141 0 (.pointer (some ⟨0,80,none⟩)) 1000004]), .val (.v false [.int .i64 a0]), .val (.v false [.int .i64 a1]), .val (.v false [.int .i64 a2]), .gbox [.sl (.lnt 0) .org a3]]
def xAx(r:Int × (List Org)):CallO:=⟨.v false [.int .i64 r.1], [[.sl (.lnt 0) .org r.2]], []⟩
def xAH(N:Nat)(k3:Int→Int→Int→(List Org)→Option (Int × (List Org))):Nat→Int→Int→Int→(List Org)→Option (Int × (List Org))
 |0,_,_,_,_=>none
 |n+1,x1,x9,x10,b1000004=>bif(decide (x9≤x10)) then((xAD N x1 x10 b1000004).bind fun r1=>bif r1.1 then((xAH N k3 n x1 x9 (IntKind.i64.wrap (x10 - 1)) r1.2)) else(bif(decide (x9>x10)) then(some (x9,r1.2)) else((xAf N x9 x10 r1.2).bind fun r2=>if 2≤List.length r1.2 then if List.length r2=List.length r1.2 then(k3 x1 (IntKind.i64.wrap (x9+1)) (IntKind.i64.wrap (x10 - 1)) r2) else none else none))) else(bif(decide (x9>x10)) then(some (x9,b1000004)) else((xAf N x9 x10 b1000004).bind fun r1=>if 2≤List.length b1000004 then if List.length r1=List.length b1000004 then(k3 x1 (IntKind.i64.wrap (x9+1)) (IntKind.i64.wrap (x10 - 1)) r1) else none else none))
def xAG(N:Nat):Nat→Int→Int→Int→(List Org)→Option (Int × (List Org))
 |0,_,_,_,_=>none
 |n+1,x1,x9,x10,b1000004=>bif(decide (x9≤x10)) then((xAD N x1 x9 b1000004).bind fun r1=>bif(!r1.1) then((xAG N n x1 (IntKind.i64.wrap (x9+1)) x10 r1.2)) else((xAH N (fun z0 z1 z2 z3=>(xAG N n z0 z1 z2 z3)) N x1 x9 x10 r1.2))) else((xAH N (fun z0 z1 z2 z3=>(xAG N n z0 z1 z2 z3)) N x1 x9 x10 b1000004))
def xBI(N:Nat)(a0:Int)(a1:Int)(a2:Int)(a3:List Org):Option (Int × (List Org)):=(xAf N a0 a2 a3).bind fun r1=>if 2≤List.length a3 then if List.length r1=List.length a3 then(xAG N N a0 (IntKind.i64.wrap (a0+1)) (IntKind.i64.wrap (a1 - 1)) r1) else none else none
def xA2(a0:Int)(a1:Int)(a2:List Org):List Arg:= [.val (.v true [.clo 64 [1000003], .swp 141 0 (.pointer (some ⟨0,80,none⟩)) 1000003]), .val (.v false [.int .i64 a0]), .val (.v false [.int .i64 a1]), .gbox [.sl (.lnt 0) .org a2]]
def xAd(r:Bool × (List Org)):CallO:=⟨.v false [.bool r.1], [[.sl (.lnt 0) .org r.2]], []⟩
def xAO(N:Nat)(k3:Int→Int→Int→Int→(List Org)→Option (Bool × (List Org))):Nat→Int→Int→Int→Int→Int→(List Org)→Option (Bool × (List Org))
 |0,_,_,_,_,_,_=>none
 |n+1,x1,x2,x7,x8,x10,b1000003=>bif(decide (x10<x2)) then((xAD N x10 (IntKind.i64.wrap (x10 - 1)) b1000003).bind fun r1=>bif(!r1.1) then((k3 x1 x2 x7 (IntKind.i64.wrap (x8+1)) r1.2)) else((xAf N x10 (IntKind.i64.wrap (x10 - 1)) r1.2).bind fun r2=>if 2≤List.length r1.2 then if List.length r2=List.length r1.2 then(xAO N k3 n x1 x2 x7 x8 (IntKind.i64.wrap (x10+1)) r2) else none else none)) else((k3 x1 x2 x7 (IntKind.i64.wrap (x8+1)) b1000003))
def xAC(N:Nat)(k3:Int→Int→Int→Int→(List Org)→Option (Bool × (List Org)))(x1:Int)(x2:Int)(x7:Int)(x8:Int)(b1000003:List Org):Option (Bool × (List Org)):=bif(decide ((IntKind.i64.wrap (x2 - x7))≥2)) then((xAO N k3 N x1 x2 x7 x8 (IntKind.i64.wrap (x7+1)) b1000003)) else((k3 x1 x2 x7 (IntKind.i64.wrap (x8+1)) b1000003))
def xAN(N:Nat)(k3:Int→Int→Int→Int→(List Org)→Option (Bool × (List Org))):Nat→Int→Int→Int→Int→Int→(List Org)→Option (Bool × (List Org))
 |0,_,_,_,_,_,_=>none
 |n+1,x1,x2,x7,x8,x9,b1000003=>bif(decide (x9≥1)) then((xAD N x9 (IntKind.i64.wrap (x9 - 1)) b1000003).bind fun r1=>bif(!r1.1) then((xAC N k3 x1 x2 x7 x8 r1.2)) else((xAf N x9 (IntKind.i64.wrap (x9 - 1)) r1.2).bind fun r2=>if 2≤List.length r1.2 then if List.length r2=List.length r1.2 then(xAN N k3 n x1 x2 x7 x8 (IntKind.i64.wrap (x9 - 1)) r2) else none else none)) else((xAC N k3 x1 x2 x7 x8 b1000003))
def xAR(N:Nat)(k3:Int→Int→Int→Int→(List Org)→Option (Bool × (List Org)))(x1:Int)(x2:Int)(x7:Int)(x8:Int)(b1000003:List Org):Option (Bool × (List Org)):=bif(x7==x2) then(some (true,b1000003)) else(bif(decide ((IntKind.i64.wrap (x2 - x1))<50)) then(some (false,b1000003)) else((xAf N x7 (IntKind.i64.wrap (x7 - 1)) b1000003).bind fun r1=>if 2≤List.length b1000003 then if List.length r1=List.length b1000003 then bif(decide ((IntKind.i64.wrap (x7 - x1))≥2)) then((xAN N k3 N x1 x2 x7 x8 (IntKind.i64.wrap (x7 - 1)) r1)) else((xAC N k3 x1 x2 x7 x8 r1)) else none else none))
def xAQ(N:Nat)(k3:Int→Int→Int→Int→(List Org)→Option (Bool × (List Org))):Nat→Int→Int→Int→Int→(List Org)→Option (Bool × (List Org))
 |0,_,_,_,_,_=>none
 |n+1,x1,x2,x7,x8,b1000003=>bif(decide (x7<x2)) then((xAD N x7 (IntKind.i64.wrap (x7 - 1)) b1000003).bind fun r1=>bif(!r1.1) then((xAQ N k3 n x1 x2 (IntKind.i64.wrap (x7+1)) x8 r1.2)) else((xAR N k3 x1 x2 x7 x8 r1.2))) else((xAR N k3 x1 x2 x7 x8 b1000003))
def xAE(N:Nat):Nat→Int→Int→Int→Int→(List Org)→Option (Bool × (List Org))
 |0,_,_,_,_,_=>none
 |n+1,x1,x2,x7,x8,b1000003=>bif(decide (x8<5)) then((xAQ N (fun z0 z1 z2 z3 z4=>(xAE N n z0 z1 z2 z3 z4)) N x1 x2 x7 x8 b1000003)) else(some (false,b1000003))
def xBg(N:Nat)(a0:Int)(a1:Int)(a2:List Org):Option (Bool × (List Org)):=(xAE N N a0 a1 (IntKind.i64.wrap (a0+1)) 0 a2)
def xBi(a0:Int)(a1:Int)(a2:Int)(a3:List Org):List Arg:= [.val (.v true [.clo 64 [1000004], .swp 141 0 (.pointer (some ⟨0,80,none⟩)) 1000004]), .val (.v false [.int .i64 a0]), .val (.v false [.int .i64 a1]), .box [.int .i64 a2], .gbox [.sl (.lnt 0) .org a3]]
def xAI(r:Int × Int × Int × (List Org)):CallO:=⟨.tup [(false, [.int .i64 r.1]),(false, [.int .i64 r.2.1])], [[.int .i64 r.2.2.1], [.sl (.lnt 0) .org r.2.2.2]], []⟩
def xBC(N:Nat)(a0:Int)(a1:Int)(a2:Int)(a3:List Org):Option (Int × Int × Int × (List Org)):=(xAD N a1 a0 a3).bind fun r1=>bif r1.1 then(some (a1,a0,(IntKind.i64.wrap (a2+1)),r1.2)) else(some (a0,a1,a2,r1.2))
def xAZ(a0:Int)(a1:Int)(a2:Int)(a3:Int)(a4:List Org):List Arg:= [.val (.v true [.clo 64 [1000005], .swp 141 0 (.pointer (some ⟨0,80,none⟩)) 1000005]), .val (.v false [.int .i64 a0]), .val (.v false [.int .i64 a1]), .val (.v false [.int .i64 a2]), .box [.int .i64 a3], .gbox [.sl (.lnt 0) .org a4]]
def xAr(r:Int × Int × (List Org)):CallO:=⟨.v false [.int .i64 r.1], [[.int .i64 r.2.1], [.sl (.lnt 0) .org r.2.2]], []⟩
def xBB(N:Nat)(a0:Int)(a1:Int)(a2:Int)(a3:Int)(a4:List Org):Option (Int × Int × (List Org)):=(xBC N a0 a1 a3 a4).bind fun r1=>(xBC N r1.2.1 a2 r1.2.2.1 r1.2.2.2).bind fun r2=>(xBC N r1.1 r2.1 r2.2.2.1 r2.2.2.2).bind fun r3=>some (r3.2.1,r3.2.2.1,r3.2.2.2)
def xA1(a0:Int)(a1:Int)(a2:List Org):List Arg:= [.val (.v true [.clo 64 [1000003], .swp 141 0 (.pointer (some ⟨0,80,none⟩)) 1000003]), .val (.v false [.int .i64 a0]), .box [.int .i64 a1], .gbox [.sl (.lnt 0) .org a2]]
def xAk(r:Int × Int × (List Org)):CallO:=⟨.v false [.int .i64 r.1], [[.int .i64 r.2.1], [.sl (.lnt 0) .org r.2.2]], []⟩
def xAY(N:Nat)(a0:Int)(a1:Int)(a2:List Org):Option (Int × Int × (List Org)):=(xBB N (IntKind.i64.wrap (a0 - 1)) a0 (IntKind.i64.wrap (a0+1)) a1 a2).bind fun r1=>some (r1.1,r1.2.1,r1.2.2)
def xAq(a0:Int)(a1:Int)(a2:List Org):List Arg:= [.val (.v true [.clo 64 [1000003], .swp 141 0 (.pointer (some ⟨0,80,none⟩)) 1000003]), .val (.v false [.int .i64 a0]), .val (.v false [.int .i64 a1]), .gbox [.sl (.lnt 0) .org a2]]
def xAm(r:Int × Int × (List Org)):CallO:=⟨.tup [(false, [.int .i64 r.1]),(false, [.int .i64 r.2.1])], [[.sl (.lnt 0) .org r.2.2]], []⟩
def xBT(N:Nat)(a0:Int)(a1:Int)(a2:List Org):Option (Int × Int × (List Org)):=bif(decide ((IntKind.i64.wrap (a1 - a0))≥8)) then(bif(decide ((IntKind.i64.wrap (a1 - a0))≥50)) then((xAY N (IntKind.i64.wrap (a0+(IntKind.i64.wrap ((IntKind.i64.wrap (Int.tdiv (IntKind.i64.wrap (a1 - a0)) 4))*1)))) 0 a2).bind fun r1=>(xAY N (IntKind.i64.wrap (a0+(IntKind.i64.wrap ((IntKind.i64.wrap (Int.tdiv (IntKind.i64.wrap (a1 - a0)) 4))*2)))) r1.2.1 r1.2.2).bind fun r2=>(xAY N (IntKind.i64.wrap (a0+(IntKind.i64.wrap ((IntKind.i64.wrap (Int.tdiv (IntKind.i64.wrap (a1 - a0)) 4))*3)))) r2.2.1 r2.2.2).bind fun r3=>(xBB N r1.1 r2.1 r3.1 r3.2.1 r3.2.2).bind fun r4=>bif(r4.2.1==0) then(some (r4.1,1,r4.2.2)) else(bif(r4.2.1==12) then(some (r4.1,2,r4.2.2)) else(some (r4.1,0,r4.2.2)))) else((xBB N (IntKind.i64.wrap (a0+(IntKind.i64.wrap ((IntKind.i64.wrap (Int.tdiv (IntKind.i64.wrap (a1 - a0)) 4))*1)))) (IntKind.i64.wrap (a0+(IntKind.i64.wrap ((IntKind.i64.wrap (Int.tdiv (IntKind.i64.wrap (a1 - a0)) 4))*2)))) (IntKind.i64.wrap (a0+(IntKind.i64.wrap ((IntKind.i64.wrap (Int.tdiv (IntKind.i64.wrap (a1 - a0)) 4))*3)))) 0 a2).bind fun r1=>bif(r1.2.1==0) then(some (r1.1,1,r1.2.2)) else(bif(r1.2.1==12) then(some (r1.1,2,r1.2.2)) else(some (r1.1,0,r1.2.2))))) else(bif((0:Int)==0) then(some ((IntKind.i64.wrap (a0+(IntKind.i64.wrap ((IntKind.i64.wrap (Int.tdiv (IntKind.i64.wrap (a1 - a0)) 4))*2)))),1,a2)) else(bif((0:Int)==12) then(some ((IntKind.i64.wrap (a0+(IntKind.i64.wrap ((IntKind.i64.wrap (Int.tdiv (IntKind.i64.wrap (a1 - a0)) 4))*2)))),2,a2)) else(some ((IntKind.i64.wrap (a0+(IntKind.i64.wrap ((IntKind.i64.wrap (Int.tdiv (IntKind.i64.wrap (a1 - a0)) 4))*2)))),0,a2)
     )))
def xBX(a0:Int)(a1:Int)(a2:Int)(a3:List Org):List Arg:= [.val (.v true [.clo 64 [1000004], .swp 141 0 (.pointer (some ⟨0,80,none⟩)) 1000004]), .val (.v false [.int .i64 a0]), .val (.v false [.int .i64 a1]), .val (.v false [.int .i64 a2]), .gbox [.sl (.lnt 0) .org a3]]
def xAu(r:(List Org)):CallO:=⟨.tup [], [[.sl (.lnt 0) .org r]], []⟩
def xAW(N:Nat):Nat→Int→Int→Int→(List Org)→Option ((List Org))
 |0,_,_,_,_=>none
 |n+1,x2,x3,x8,b1000004=>bif(decide (((IntKind.i64.wrap ((IntKind.i64.wrap (2*x8))+1)):Int)≥x2)) then(some b1000004) else(bif(decide (((IntKind.i64.wrap ((IntKind.i64.wrap ((IntKind.i64.wrap (2*x8))+1))+1)):Int)<x2)) then((xAD N (IntKind.i64.wrap (x3+(IntKind.i64.wrap ((IntKind.i64.wrap (2*x8))+1)))) (IntKind.i64.wrap ((IntKind.i64.wrap (x3+(IntKind.i64.wrap ((IntKind.i64.wrap (2*x8))+1))))+1)) b1000004).bind fun r1=>bif r1.1 then((xAD N (IntKind.i64.wrap (x3+x8)) (IntKind.i64.wrap (x3+(IntKind.i64.wrap ((IntKind.i64.wrap ((IntKind.i64.wrap (2*x8))+1))+1)))) r1.2).bind fun r2=>bif(!r2.1) then(some r2.2) else((xAf N (IntKind.i64.wrap (x3+x8)) (IntKind.i64.wrap (x3+(IntKind.i64.wrap ((IntKind.i64.wrap ((IntKind.i64.wrap (2*x8))+1))+1)))) r2.2).bind fun r3=>if 2≤List.length r2.2 then if List.length r3=List.length r2.2 then(xAW N n x2 x3 (IntKind.i64.wrap ((IntKind.i64.wrap ((IntKind.i64.wrap (2*x8))+1))+1)) r3) else none else none)) else((xAD N (IntKind.i64.wrap (x3+x8)) (IntKind.i64.wrap (x3+(IntKind.i64.wrap ((IntKind.i64.wrap (2*x8))+1)))) r1.2).bind fun r2=>bif(!r2.1) then(some r2.2) else((xAf N (IntKind.i64.wrap (x3+x8)) (IntKind.i64.wrap (x3+(IntKind.i64.wrap ((IntKind.i64.wrap (2*x8))+1)))) r2.2).bind fun r3=>if 2≤List.length r2.2 then if List.length r3=List.length r2.2 then(xAW N n x2 x3 (IntKind.i64.wrap ((IntKind.i64.wrap (2*x8))+1)) r3) else none else none))) else((xAD N (IntKind.i64.wrap (x3+x8)) (IntKind.i64.wrap (x3+(IntKind.i64.wrap ((IntKind.i64.wrap (2*x8))+1)))) b1000004).bind fun r1=>bif(!r1.1) then(some r1.2) else((xAf N (IntKind.i64.wrap (x3+x8)) (IntKind.i64.wrap (x3+(IntKind.i64.wrap ((IntKind.i64.wrap (2*x8))+1)))) r1.2).bind fun r2 =>
      if 2≤List.length r1.2 then if List.length r2=List.length r1.2 then(xAW N n x2 x3 (IntKind.i64.wrap ((IntKind.i64.wrap (2*x8))+1)) r2) else none else none)))
def xBk(N:Nat)(a0:Int)(a1:Int)(a2:Int)(a3:List Org):Option ((List Org)):=(xAW N N a1 a2 a0 a3)
def xCl(a0:Int)(a1:Int)(a2:List Org):List Arg:= [.val (.v true [.clo 64 [1000003], .swp 141 0 (.pointer (some ⟨0,80,none⟩)) 1000003]), .val (.v false [.int .i64 a0]), .val (.v false [.int .i64 a1]), .gbox [.sl (.lnt 0) .org a2]]
def xA7(r:(List Org)):CallO:=⟨.tup [], [[.sl (.lnt 0) .org r]], []⟩
def xBw(N:Nat):Nat→Int→Int→Int→(List Org)→Option ((List Org))
 |0,_,_,_,_=>none
 |n+1,x6,x7,x10,b1000003=>bif(decide (x10≥0)) then((xAf N x6 (IntKind.i64.wrap (x6+x10)) b1000003).bind fun r1=>if 2≤List.length b1000003 then if List.length r1=List.length b1000003 then(xBk N x7 x10 x6 r1).bind fun r2=>(xBw N n x6 x7 (IntKind.i64.wrap (x10 - 1)) r2) else none else none) else(some b1000003)
def xBv(N:Nat):Nat→Int→Int→Int→Int→(List Org)→Option ((List Org))
 |0,_,_,_,_,_=>none
 |n+1,x6,x7,x8,x9,b1000003=>bif(decide (x9≥0)) then((xBk N x9 x8 x6 b1000003).bind fun r1=>(xBv N n x6 x7 x8 (IntKind.i64.wrap (x9 - 1)) r1)) else((xBw N N x6 x7 (IntKind.i64.wrap (x8 - 1)) b1000003))
def xCa(N:Nat)(a0:Int)(a1:Int)(a2:List Org):Option ((List Org)):=(xBv N N a0 0 (IntKind.i64.wrap (a1 - a0)) (IntKind.i64.wrap (Int.tdiv (IntKind.i64.wrap ((IntKind.i64.wrap (a1 - a0)) - 1)) 2)) a2)
def xB1(a0:Int)(a1:Int)(a2:List Org):List Arg:= [.val (.v true [.clo 64 [1000003], .swp 141 0 (.pointer (some ⟨0,80,none⟩)) 1000003]), .val (.v false [.int .i64 a0]), .val (.v false [.int .i64 a1]), .gbox [.sl (.lnt 0) .org a2]]
def xAJ(r:(List Org)):CallO:=⟨.tup [], [[.sl (.lnt 0) .org r]], []⟩
def xA6(N:Nat)(k2:Int→Int→Int→(List Org)→Option ((List Org))):Nat→Int→Int→Int→Int→(List Org)→Option ((List Org))
 |0,_,_,_,_,_=>none
 |n+1,x1,x2,x6,x7,b1000003=>bif(decide (x7>x1)) then((xAD N x7 (IntKind.i64.wrap (x7 - 1)) b1000003).bind fun r1=>bif r1.1 then((xAf N x7 (IntKind.i64.wrap (x7 - 1)) r1.2).bind fun r2=>if 2≤List.length r1.2 then if List.length r2=List.length r1.2 then(xA6 N k2 n x1 x2 x6 (IntKind.i64.wrap (x7 - 1)) r2) else none else none) else((k2 x1 x2 (IntKind.i64.wrap (x6+1)) r1.2))) else((k2 x1 x2 (IntKind.i64.wrap (x6+1)) b1000003))
def xA5(N:Nat):Nat→Int→Int→Int→(List Org)→Option ((List Org))
 |0,_,_,_,_=>none
 |n+1,x1,x2,x6,b1000003=>bif(decide (x6<x2)) then((xA6 N (fun z0 z1 z2 z3=>(xA5 N n z0 z1 z2 z3)) N x1 x2 x6 x6 b1000003)) else(some b1000003)
def xBL(N:Nat)(a0:Int)(a1:Int)(a2:List Org):Option ((List Org)):=(xA5 N N a0 a1 (IntKind.i64.wrap (a0+1)) a2)
def xBd(a0:Int)(a1:Int)(a2:Int)(a3:List Org):List Arg:= [.val (.v true [.clo 64 [1000004], .swp 141 0 (.pointer (some ⟨0,80,none⟩)) 1000004]), .val (.v false [.int .i64 a0]), .val (.v false [.int .i64 a1]), .val (.v false [.int .i64 a2]), .gbox [.sl (.lnt 0) .org a3]]
def xAi(r:(List Org)):CallO:=⟨.tup [], [[.sl (.lnt 0) .org r]], []⟩
def xBW(N:Nat)(q0:Int→Int→Int→(List Org)→Option ((List Org)))(k3:Int→Int→Int→Bool→Bool→(List Org)→Option ((List Org)))(x1:Int)(x2:Int)(x3:Int)(x10:Int)(x11:Int)(b1000004:List Org):Option ((List Org)):=(xB4 N x1 x2 x11 b1000004).bind fun r1=>bif(decide ((IntKind.i64.wrap (r1.1 - x1))<(IntKind.i64.wrap (x2 - r1.1)))) then((q0 x1 r1.1 x3 r1.2.2).bind fun r2=>(k3 (IntKind.i64.wrap (r1.1+1)) x2 x3 (decide ((IntKind.i64.wrap (r1.1 - x1))≥(IntKind.i64.wrap (Int.tdiv x10 8)))) r1.2.1 r2)) else((q0 (IntKind.i64.wrap (r1.1+1)) x2 x3 r1.2.2).bind fun r2=>(k3 x1 r1.1 x3 (decide ((IntKind.i64.wrap (x2 - r1.1))≥(IntKind.i64.wrap (Int.tdiv x10 8)))) r1.2.1 r2))
def xA8(N:Nat)(q0:Int→Int→Int→(List Org)→Option ((List Org)))(k3:Int→Int→Int→Bool→Bool→(List Org)→Option ((List Org)))(x1:Int)(x2:Int)(x3:Int)(x8:Bool)(x9:Bool)(x10:Int)(x11:Int)(b1000004:List Org):Option ((List Org)):=bif(decide (x1>0)) then((xAD N (IntKind.i64.wrap (x1 - 1)) x11 b1000004).bind fun r1=>bif(!r1.1) then((xBI N x1 x2 x11 r1.2).bind fun r2=>(k3 r2.1 x2 x3 x8 x9 r2.2)) else((xBW N q0 k3 x1 x2 x3 x10 x11 r1.2))) else((xBW N q0 k3 x1 x2 x3 x10 x11 b1000004))
def xBV(N:Nat)(q0:Int→Int→Int→(List Org)→Option ((List Org)))(k3:Int→Int→Int→Bool→Bool→(List Org)→Option ((List Org)))(x1:Int)(x2:Int)(x3:Int)(x8:Bool)(x9:Bool)(x10:Int)(x11:Int)(x12:Int)(b1000004:List Org):Option ((List Org)):=bif x8 then(bif x9 then(bif(x12==1) then((xBg N x1 x2 b1000004).bind fun r1=>bif r1.1 then(some r1.2) else((xA8 N q0 k3 x1 x2 x3 x8 x9 x10 x11 r1.2))) else((xA8 N q0 k3 x1 x2 x3 x8 x9 x10 x11 b1000004))) else((xA8 N q0 k3 x1 x2 x3 x8 x9 x10 x11 b1000004))) else((xA8 N q0 k3 x1 x2 x3 x8 x9 x10 x11 b1000004))
def xBU(N:Nat)(q0:Int→Int→Int→(List Org)→Option ((List Org)))(k3:Int→Int→Int→Bool→Bool→(List Org)→Option ((List Org)))(x1:Int)(x2:Int)(x3:Int)(x8:Bool)(x9:Bool)(x10:Int)(b1000004:List Org):Option ((List Org)):=(xBT N x1 x2 b1000004).bind fun r1=>bif(r1.2.1==2) then((xBP N x1 x2 r1.2.2).bind fun r2=>(xBV N q0 k3 x1 x2 x3 x8 x9 x10 (IntKind.i64.wrap ((IntKind.i64.wrap (x2 - 1)) - (IntKind.i64.wrap (r1.1 - x1)))) 1 r2)) else((xBV N q0 k3 x1 x2 x3 x8 x9 x10 r1.1 r1.2.1 r1.2.2))
def xBe(N:Nat)(q0:Int→Int→Int→(List Org)→Option ((List Org))):Nat→Int→Int→Int→Bool→Bool→(List Org)→Option ((List Org))
 |0,_,_,_,_,_,_=>none
 |n+1,x1,x2,x3,x8,x9,b1000004=>bif(decide ((IntKind.i64.wrap (x2 - x1))≤12)) then((xBL N x1 x2 b1000004).bind fun r1=>some r1) else(bif(x3==0) then((xCa N x1 x2 b1000004).bind fun r1=>some r1) else(bif(!x8) then((xBK N x1 x2 b1000004).bind fun r1=>(xBU N q0 (fun z0 z1 z2 z3 z4 z5=>(xBe N q0 n z0 z1 z2 z3 z4 z5)) x1 x2 (IntKind.i64.wrap (x3 - 1)) x8 x9 (IntKind.i64.wrap (x2 - x1)) r1)) else((xBU N q0 (fun z0 z1 z2 z3 z4 z5=>(xBe N q0 n z0 z1 z2 z3 z4 z5)) x1 x2 x3 x8 x9 (IntKind.i64.wrap (x2 - x1)) b1000004))))
def xC1(N:Nat)(q0:Int→Int→Int→(List Org)→Option ((List Org)))(a0:Int)(a1:Int)(a2:Int)(a3:List Org):Option ((List Org)):=(xBe N q0 N a0 a1 a2 true true a3)
def xA9(N:Nat):Nat→Int→Int→Int→(List Org)→Option ((List Org))
 |0,_,_,_,_=>none
 |d+1,a0,a1,a2,a3=>xC1 N (xA9 N d) a0 a1 a2 a3
def xDC(N:Nat)(a0:Int)(a1:Int)(a2:Int)(a3:List Org):Option ((List Org)):=xA9 N N a0 a1 a2 a3
def xJH(N:Nat):Nat→(List Str)→Int→Int→Option (Int)
 |0,_,_,_=>none
 |n+1,x0,x1,x5=>bif(decide (x5<(List.length x0:Int))) then(if(0:Int)≤x5∧x5<(List.length x0) then bif(decide (((IntKind.i64.wrap (x1 - (List.length (List.getD x0 (Int.toNat x5) Ty.str.dflt):Int))):Int)<0)) then(some (-1)) else((xJH N n x0 (IntKind.i64.wrap (x1 - (List.length (List.getD x0 (Int.toNat x5) Ty.str.dflt):Int))) (IntKind.i64.wrap (x5+1)))) else none) else(some x1)
def xNN(N:Nat)(a0:List Str)(a1:Int):Option (Int):=bif(decide (((IntKind.i64.wrap (a1 - (List.length a0:Int))):Int)<0)) then(some (-1)) else((xJH N N a0 (IntKind.i64.wrap (a1 - (List.length a0:Int))) 0))
def xRD(N:Nat)(a0:List Int)(a1:Int):Option (Int):=bif(decide (((IntKind.i64.wrap (a1 - (List.length a0:Int))):Int)<0)) then(some (-1)) else(some (IntKind.i64.wrap (a1 - (List.length a0:Int))))
def xNM(N:Nat)(a0:List Org)(a1:Int):Option (Int):=bif(decide (((IntKind.i64.wrap (a1 - (List.length a0:Int))):Int)<0)) then(some (-1)) else(some (IntKind.i64.wrap (a1 - (List.length a0:Int))))
def xTm(N:Nat)(a0:Rowd)(a1:Int):Option (Int):=(xRD N (Rowd.cells a0) a1).bind fun r1=>bif(decide (r1<0)) then(some (-1)) else((xNM N (Rowd.frm a0) r1).bind fun r2=>bif(decide (r2<0)) then(some (-1)) else(some r2))
def xKT(N:Nat):Nat→(List Rowd)→Int→Int→Option (Int)
 |0,_,_,_=>none
 |n+1,x0,x1,x5=>bif(decide (x5<(List.length x0:Int))) then(if(0:Int)≤x5∧x5<(List.length x0) then(xTm N (List.getD x0 (Int.toNat x5) Ty.row.dflt) x1).bind fun r1=>bif(decide (r1<0)) then(some (-1)) else((xKT N n x0 r1 (IntKind.i64.wrap (x5+1)))) else none) else(some x1)
def xRE(N:Nat)(a0:List Rowd)(a1:Int):Option (Int):=bif(decide (((IntKind.i64.wrap (a1 - (List.length a0:Int))):Int)<0)) then(some (-1)) else((xKT N N a0 (IntKind.i64.wrap (a1 - (List.length a0:Int))) 0))
def xLV(N:Nat)(q0:Val→Int→Option (Int))(q1:(List Val)→Int→Option (Int))(a0:Val)(a1:Int):Option (Int):=bif(decide (((IntKind.i64.wrap (a1 - (List.length (Val.text a0):Int))):Int)<0)) then(some (-1)) else((q1 (Val.list a0) (IntKind.i64.wrap (a1 - (List.length (Val.text a0):Int)))).bind fun r1=>bif(decide (r1<0)) then(some (-1)) else((xNN N (Val.columns a0) r1).bind fun r2=>bif(decide (r2<0)) then(some (-1)) else((xRE N (Val.rows a0) r2).bind fun r3=>bif(decide (r3<0)) then(some (-1)) else(some r3))))
def xKe(N:Nat)(q0:Val→Int→Option (Int))(q1:(List Val)→Int→Option (Int)):Nat→(List Val)→Int→Int→Option (Int)
 |0,_,_,_=>none
 |n+1,x0,x1,x5=>bif(decide (x5<(List.length x0:Int))) then(if(0:Int)≤x5∧x5<(List.length x0) then(q0 (List.getD x0 (Int.toNat x5) Ty.val.dflt) x1).bind fun r1=>bif(decide (r1<0)) then(some (-1)) else((xKe N q0 q1 n x0 r1 (IntKind.i64.wrap (x5+1)))) else none) else(some x1)
def xLy(N:Nat)(q0:Val→Int→Option (Int))(q1:(List Val)→Int→Option (Int))(a0:List Val)(a1:Int):Option (Int):=bif(decide (((IntKind.i64.wrap (a1 - (List.length a0:Int))):Int)<0)) then(some (-1)) else((xKe N q0 q1 N a0 (IntKind.i64.wrap (a1 - (List.length a0:Int))) 0))
structure laws_szValue_rec where
 c_laws_szValue:Val→Int→Option (Int)
 c_laws_szValueS:(List Val)→Int→Option (Int)
def xG5(N:Nat):Nat→laws_szValue_rec
 |0=>⟨fun _ _=>none,fun _ _=>none⟩
 |d+1=>⟨xLV N (xG5 N d).c_laws_szValue (xG5 N d).c_laws_szValueS,xLy N (xG5 N d).c_laws_szValue (xG5 N d).c_laws_szValueS⟩
def xLX(N:Nat):Nat→(List Str)→(List Str)→Int→Option ((List Str))
 |0,_,_,_=>none
 |n+1,x0,x3,x4=>bif(decide (x4<(List.length x0:Int))) then(if(0:Int)≤x4∧x4<(List.length x0) then if(0:Int)≤x4∧x4<(List.length x3) then(xLX N n x0 (List.set x3 (Int.toNat x4) (List.getD x0 (Int.toNat x4) Ty.str.dflt)) (IntKind.i64.wrap (x4+1))) else none else none) else(some x3)
def xNO(N:Nat):Nat→(List Int)→(List Int)→Int→Option ((List Int))
 |0,_,_,_=>none
 |n+1,x0,x3,x4=>bif(decide (x4<(List.length x0:Int))) then(if(0:Int)≤x4∧x4<(List.length x0) then if(0:Int)≤x4∧x4<(List.length x3) then(xNO N n x0 (List.set x3 (Int.toNat x4) (List.getD x0 (Int.toNat x4) Ty.int.dflt)) (IntKind.i64.wrap (x4+1))) else none else none) else(some x3)
def xOK(N:Nat)(a0:Org):Option (Org):=some a0
def xLW(N:Nat):Nat→(List Org)→(List Org)→Int→Option ((List Org))
 |0,_,_,_=>none
 |n+1,x0,x3,x4=>bif(decide (x4<(List.length x0:Int))) then(if(0:Int)≤x4∧x4<(List.length x0) then(xOK N (List.getD x0 (Int.toNat x4) Ty.org.dflt)).bind fun r1=>if(0:Int)≤x4∧x4<(List.length x3) then(xLW N n x0 (List.set x3 (Int.toNat x4) r1) (IntKind.i64.wrap (x4+1))) else none else none) else(some x3)
def xFI(a0:Int)(a1:Int)(a2:Int):List Arg:= [.val (.v false [.int .i64 a0]), .val (.v false [.int .i64 a1]), .val (.v false [.int .i64 a2])]
def xDL(r:Bool):CallO:=⟨.v false [.bool r], [], []⟩
def xIZ(N:Nat)(a0:Int)(a1:Int)(a2:Int):Option (Bool):=bif(decide (a0≥a1)) then(some (decide (a0≤a2))) else(some false)
def xDo(a0:Int):List Arg:= [.val (.v false [.int .i64 a0])]
def xBR(r:Bool):CallO:=⟨.v false [.bool r], [], []⟩
def xFo(N:Nat)(a0:Int):Option (Bool):=(xIZ N a0 (-1000000000) 1000000000).bind fun r1=>some r1
def xFV(a0:Str):List Arg:= [.val (.v false [.str a0])]
def xCz(r:Bool):CallO:=⟨.v false [.bool r], [], []⟩
def xCU(N:Nat):Nat→Str→Int→Option (Bool)
 |0,_,_=>none
 |n+1,x0,x3=>bif(decide (x3<(List.length x0:Int))) then(if(0:Int)≤x3∧x3<(List.length x0) then bif(decide ((((List.getD x0 (Int.toNat x3) 0).toNat:Int):Int)<32)) then(some false) else(bif(decide ((((List.getD x0 (Int.toNat x3) 0).toNat:Int):Int)>126)) then(some false) else(bif((((List.getD x0 (Int.toNat x3) 0).toNat:Int):Int)==34) then(some false) else((xCU N n x0 (IntKind.i64.wrap (x3+1)))))) else none) else(some (decide ((List.length x0:Int)≤20)))
def xG6(N:Nat)(a0:Str):Option (Bool):=(xCU N N a0 0)
def xEG(a0:Val):List Arg:= [.val (.v true (Va .ro a0))]
def xC2(r:Bool):CallO:=⟨.v false [.bool r], [], []⟩
def xH3(N:Nat)(a0:Val):Option (Bool):=bif((Val.kind a0)==1) then(some true) else(bif((Val.kind a0)==2) then(some true) else(some ((Val.kind a0)==3)))
def xHC(a0:Int)(a1:Int):List Arg:= [.val (.v false [.int .i64 a0]), .val (.v false [.int .i64 a1])]
def xGI(r:Int):CallO:=⟨.v false [.int .i64 r], [], []⟩
def xJQ(N:Nat)(a0:Int)(a1:Int):Option (Int):=bif(decide (a0>a1)) then(some a0) else(some a1)
def xE0(a0:Val):List Arg:= [.val (.v true (Va .ro a0))]
def xDf(r:Int):CallO:=⟨.v false [.int .i64 r], [], []⟩
def xFz(N:Nat)(q0:Val→Option (Int)):Nat→Int→Int→Val→Option (Int)
 |0,_,_,_=>none
 |n+1,x3,x4,b1=>bif(decide (x4<(List.length (Val.list b1):Int))) then(if(0:Int)≤x4∧x4<(List.length (Val.list b1)) then(q0 (List.getD (Val.list b1) (Int.toNat x4) Ty.val.dflt)).bind fun r1=>(xJQ N x3 r1).bind fun r2=>(xFz N q0 n r2 (IntKind.i64.wrap (x4+1)) b1) else none) else(some (IntKind.i64.wrap (x3+1)))
def xHS(N:Nat)(q0:Val→Option (Int))(a0:Val):Option (Int):=(xFz N q0 N 0 0 a0)
def xEs(N:Nat):Nat→Val→Option (Int)
 |0,_=>none
 |d+1,a0=>xHS N (xEs N d) a0
def xJg(N:Nat)(a0:Val):Option (Int):=xEs N N a0
def xFC(a0:Str):List Arg:= [.val (.v false [.str a0])]
def xBG(r:Bool):CallO:=⟨.v false [.bool r], [], []⟩
def xDi(N:Nat):Nat→Str→Int→Option (Bool)
 |0,_,_=>none
 |n+1,x0,x3=>bif(decide (x3<(List.length x0:Int))) then(if(0:Int)≤x3∧x3<(List.length x0) then bif(decide ((((List.getD x0 (Int.toNat x3) 0).toNat:Int):Int)≥97)) then(bif(decide ((((List.getD x0 (Int.toNat x3) 0).toNat:Int):Int)≥48)) then(bif(!(decide ((((List.getD x0 (Int.toNat x3) 0).toNat:Int):Int)≤122))) then(bif(x3==0) then(some false) else(bif(!(decide ((((List.getD x0 (Int.toNat x3) 0).toNat:Int):Int)≤57))) then(some false) else((xDi N n x0 (IntKind.i64.wrap (x3+1)))))) else((xDi N n x0 (IntKind.i64.wrap (x3+1))))) else(bif(!(decide ((((List.getD x0 (Int.toNat x3) 0).toNat:Int):Int)≤122))) then(bif(x3==0) then(some false) else(some false)) else((xDi N n x0 (IntKind.i64.wrap (x3+1)))))) else(bif(decide ((((List.getD x0 (Int.toNat x3) 0).toNat:Int):Int)≥48)) then(bif(x3==0) then(some false) else(bif(!(decide ((((List.getD x0 (Int.toNat x3) 0).toNat:Int):Int)≤57))) then(some false) else((xDi N n x0 (IntKind.i64.wrap (x3+1)))))) else(bif(x3==0) then(some false) else(some false))) else none) else(some (decide ((List.length x0:Int)>0)))
def xJj(N:Nat)(a0:Str):Option (Bool):=(xDi N N a0 0)
def xGp:List Arg:= []
def xFm(r:(List Str)):CallO:=⟨.v false [.sl .own .str r], [], []⟩
def xHE(N:Nat):Option ((List Str)):=some [[108,101,116], [105,110], [105,102], [116,104,101,110], [101,108,115,101], [102,111,114], [100,111], [108,101,110], [115,117,109], [116,97,107,101], [115,107,105,112], [114,97,110,103,101], [110,116,104], [119,104,101,114,101], [107,101,101,112], [97,100,100], [103,114,111,117,112], [106,111,105,110], [99,111,108,117,109,110], [114,111,119,115], [99,108,111,99,107], [99,104,97,110,99,101], [102,105,108,101], [116,97,98,108,101]]
def xGH(a0:List Str)(a1:Str):List Arg:= [.val (.v false [.sl .ro .str a0]), .val (.v false [.str a1])]
def xDF(r:Bool):CallO:=⟨.v false [.bool r], [], []⟩
def xF0(N:Nat):Nat→(List Str)→Str→Int→Option (Bool)
 |0,_,_,_=>none
 |n+1,x0,x1,x5=>bif(decide (x5<(List.length x0:Int))) then(if(0:Int)≤x5∧x5<(List.length x0) then bif(((List.getD x0 (Int.toNat x5) Ty.str.dflt):Str)==x1) then(some true) else((xF0 N n x0 x1 (IntKind.i64.wrap (x5+1)))) else none) else(some false)
def xJP(N:Nat)(a0:List Str)(a1:Str):Option (Bool):=(xF0 N N a0 a1 0)
def xGo(a0:Str):List Arg:= [.val (.v false [.str a0])]
def xFl(r:Bool):CallO:=⟨.v false [.bool r], [], []⟩
def xGx(N:Nat)(a0:Str):Option (Bool):=(xHE N).bind fun r1=>(xJP N r1 a0).bind fun r2=>some r2
def xDu(a0:Str):List Arg:= [.val (.v false [.str a0])]
def xCy(r:Bool):CallO:=⟨.v false [.bool r], [], []⟩
def xF8(N:Nat)(a0:Str):Option (Bool):=(xJj N a0).bind fun r1=>bif r1 then(bif(decide ((List.length a0:Int)≤8)) then((xGx N a0).bind fun r2=>some (!r2)) else(some false)) else(some false)
def xEZ(a0:List Str):List Arg:= [.val (.v false [.sl .ro .str a0])]
def xB5(r:Bool):CallO:=⟨.v false [.bool r], [], []⟩
def xDt(N:Nat):Nat→(List Str)→Int→Option (Bool)
 |0,_,_=>none
 |n+1,x0,x3=>bif(decide (x3<(List.length x0:Int))) then(if(0:Int)≤x3∧x3≤(List.length x0) then if(0:Int)≤x3∧x3<(List.length x0) then(xJP N (List.take (Int.toNat x3) x0) (List.getD x0 (Int.toNat x3) Ty.str.dflt)).bind fun r1=>bif r1 then(some false) else((xDt N n x0 (IntKind.i64.wrap (x3+1)))) else none else none) else(some true)
def xF7(N:Nat)(a0:List Str):Option (Bool):=(xDt N N a0 0)
def xEE(a0:List Str):List Arg:= [.val (.v false [.sl .ro .str a0])]
def xCe(r:Bool):CallO:=⟨.v false [.bool r], [], []⟩
def xEF(N:Nat):Nat→(List Str)→Int→Option (Bool)
 |0,_,_=>none
 |n+1,x0,x3=>bif(decide (x3<(List.length x0:Int))) then(if(0:Int)≤x3∧x3<(List.length x0) then(xF8 N (List.getD x0 (Int.toNat x3) Ty.str.dflt)).bind fun r1=>bif(!r1) then(some false) else((xEF N n x0 (IntKind.i64.wrap (x3+1)))) else none) else((xIZ N (List.length x0:Int) 1 4).bind fun r1=>bif r1 then((xF7 N x0).bind fun r2=>some r2) else(some false))
def xH2(N:Nat)(a0:List Str):Option (Bool):=(xEF N N a0 0)
def xDM(a0:Org)(a1:Org):List Arg:= [.val (.v true [.int .i64 (Org.cell a0), .int .i64 (Org.row a0)]), .val (.v true [.int .i64 (Org.cell a1), .int .i64 (Org.row a1)])]
def xBl(r:Bool):CallO:=⟨.v false [.bool r], [], []⟩
def xFn(N:Nat)(a0:Org)(a1:Org):Option (Bool):=bif(decide ((Org.cell a0)<(Org.cell a1))) then(some true) else(bif((Org.cell a0)==(Org.cell a1)) then(some (decide ((Org.row a0)<(Org.row a1)))) else(some false))
def xE6(a0:List Org):List Arg:= [.val (.v false [.sl .ro .org a0])]
def xB6(r:Bool):CallO:=⟨.v false [.bool r], [], []⟩
def xCV(N:Nat):Nat→(List Org)→Int→Option (Bool)
 |0,_,_=>none
 |n+1,x0,x3=>bif(decide (x3<(List.length x0:Int))) then(if(0:Int)≤x3∧x3<(List.length x0) then bif(decide (((Org.cell (List.getD x0 (Int.toNat x3) Ty.org.dflt)):Int)<0)) then(some false) else(bif(decide (((Org.row (List.getD x0 (Int.toNat x3) Ty.org.dflt)):Int)<0)) then(some false) else(bif(decide (x3>0)) then(if(0:Int)≤(IntKind.i64.wrap (x3 - 1))∧(IntKind.i64.wrap (x3 - 1))<(List.length x0) then(xFn N (List.getD x0 (Int.toNat (IntKind.i64.wrap (x3 - 1))) Ty.org.dflt) (List.getD x0 (Int.toNat x3) Ty.org.dflt)).bind fun r1=>bif(!r1) then(some false) else((xCV N n x0 (IntKind.i64.wrap (x3+1)))) else none) else((xCV N n x0 (IntKind.i64.wrap (x3+1)))))) else none) else(some true)
def xG7(N:Nat)(a0:List Org):Option (Bool):=(xCV N N a0 0)
def xFD(a0:Val):List Arg:= [.val (.v true (Va .ro a0))]
def xCo(r:Bool):CallO:=⟨.v false [.bool r], [], []⟩
def xEu(N:Nat)(k4:Int→Val→Option (Bool)):Nat→Int→Int→Val→Rowd→Option (Bool)
 |0,_,_,_,_=>none
 |n+1,x3,x5,b1,b4=>bif(decide (x5<(List.length (Rowd.cells b4):Int))) then(if(0:Int)≤x5∧x5<(List.length (Rowd.cells b4)) then(xFo N (List.getD (Rowd.cells b4) (Int.toNat x5) Ty.int.dflt)).bind fun r1=>bif(!r1) then(some false) else((xEu N k4 n x3 (IntKind.i64.wrap (x5+1)) b1 b4)) else none) else((k4 (IntKind.i64.wrap (x3+1)) b1))
def xE7(N:Nat):Nat→Int→Val→Option (Bool)
 |0,_,_=>none
 |n+1,x3,b1=>bif(decide (x3<(List.length (Val.rows b1):Int))) then(if(0:Int)≤x3∧x3<(List.length (Val.rows b1)) then bif(((List.length (Rowd.cells (List.getD (Val.rows b1) (Int.toNat x3) Ty.row.dflt)):Int):Int) != (List.length (Val.columns b1):Int)) then(some false) else((xG7 N (Rowd.frm (List.getD (Val.rows b1) (Int.toNat x3) Ty.row.dflt))).bind fun r1=>bif(!r1) then(some false) else((xEu N (fun z0 z1=>(xE7 N n z0 z1)) N x3 0 b1 (List.getD (Val.rows b1) (Int.toNat x3) Ty.row.dflt)))) else none) else(some true)
def xId(N:Nat)(a0:Val):Option (Bool):=(xH2 N (Val.columns a0)).bind fun r1=>bif(!r1) then(some false) else(bif(decide ((List.length (Val.rows a0):Int)>12)) then(some false) else((xE7 N N 0 a0)))
def xAp(a0:Val):List Arg:= [.val (.v true (Va .ro a0))]
def xAl(r:Bool):CallO:=⟨.v false [.bool r], [], []⟩
def xDQ(N:Nat)(q0:Val→Option (Bool))(q1:Val→Option (Bool))(a0:Val):Option (Bool):=bif((Val.kind a0) != 3) then(bif(decide ((List.length (Val.list a0):Int)>0)) then(some false) else(bif((Val.kind a0) != 5) then(bif(decide (((IntKind.i64.wrap ((List.length (Val.columns a0):Int)+(List.length (Val.rows a0):Int))):Int)>0)) then(some false) else(bif((Val.kind a0) != 2) then(bif(!(((Val.text a0):Str)== [])) then(some false) else(bif((Val.kind a0) != 4) then(bif((Val.step a0) != 0) then(some false) else(bif((Val.kind a0)==1) then((xFo N (Val.n a0)).bind fun r1=>some r1) else(bif((Val.kind a0)==6) then((xIZ N (Val.n a0) 1 8).bind fun r1=>some r1) else(some false)))) else((xFo N (Val.n a0)).bind fun r1=>bif r1 then((xFo N (Val.step a0)).bind fun r2=>some r2) else(some false)))) else(bif((Val.step a0) != 0) then(some false) else(bif((Val.n a0)==0) then((xG6 N (Val.text a0)).bind fun r1=>some r1) else(some false))))) else(bif(!(((Val.text a0):Str)== [])) then(some false) else(bif((Val.step a0) != 0) then(some false) else(bif((Val.n a0)==0) then((xId N a0).bind fun r1=>some r1) else(some false)))))) else(bif(decide (((IntKind.i64.wrap ((List.length (Val.columns a0):Int)+(List.length (Val.rows a0):Int))):Int)>0)) then(some false) else(bif(!(((Val.text a0):Str)== [])) then(some false) else(bif((Val.step a0) != 0) then(some false) else(bif((Val.n a0)==0) then((q1 a0).bind fun r1=>some r1) else(some false)))))
def xG1(a0:Val):List Arg:= [.val (.v true (Va .ro a0))]
def xDy(r:Bool):CallO:=⟨.v false [.bool r], [], []⟩
def xEA(N:Nat)(q0:Val→Option (Bool))(q1:Val→Option (Bool)):Nat→Int→Val→Option (Bool)
 |0,_,_=>none
 |n+1,x3,b1=>bif(decide (x3<(List.length (Val.list b1):Int))) then(if(0:Int)≤x3∧x3<(List.length (Val.list b1)) then(xH3 N (List.getD (Val.list b1) (Int.toNat x3) Ty.val.dflt)).bind fun r1=>bif(!r1) then(some false) else((q0 (List.getD (Val.list b1) (Int.toNat x3) Ty.val.dflt)).bind fun r2=>bif(!r2) then(some false) else((xEA N q0 q1 n (IntKind.i64.wrap (x3+1)) b1))) else none) else(bif(decide ((List.length (Val.list b1):Int)≤8)) then((xJg N b1).bind fun r1=>some (decide (r1≤3))) else(some false))
def xIk(N:Nat)(q0:Val→Option (Bool))(q1:Val→Option (Bool))(a0:Val):Option (Bool):=(xEA N q0 q1 N 0 a0)
structure spec_IsValidValue_rec where
 c_spec_IsValidValue:Val→Option (Bool)
 c_spec_l3List:Val→Option (Bool)
def xAA(N:Nat):Nat→spec_IsValidValue_rec
 |0=>⟨fun _=>none,fun _=>none⟩
 |d+1=>⟨xDQ N (xAA N d).c_spec_IsValidValue (xAA N d).c_spec_l3List,xIk N (xAA N d).c_spec_IsValidValue (xAA N d).c_spec_l3List⟩
def xHT(N:Nat)(a0:Val):Option (Bool):=(xAA N N).c_spec_IsValidValue a0
def xB2(a0:Int):List Arg:= [.val (.v false [.int .i64 a0])]
def xAM(r:Val):CallO:=⟨.v true (Va .own r), [], []⟩
def xBF(N:Nat)(a0:Int):Option (Val):=some (Val.mk 6 a0 0 [] [] [] [])
def xGz(a0:List Val):List Arg:= [.val (.v false [.sl .ro .val a0])]
def xDl(r:Val × Bool):CallO:=⟨.tup [(true,(Va .own r.1)),(false, [.bool r.2])], [], []⟩
def xEe(N:Nat):Nat→(List Val)→Int→Val→Option (Val × Bool)
 |0,_,_,_=>none
 |n+1,x0,x4,b2=>bif(decide (x4<(List.length x0:Int))) then(if(0:Int)≤x4∧x4<(List.length x0) then(xHT N (List.getD x0 (Int.toNat x4) Ty.val.dflt)).bind fun r1=>bif(!r1) then((xBF N 4).bind fun r2=>some (r2,true)) else(bif(((Val.kind (List.getD x0 (Int.toNat x4) Ty.val.dflt)):Int)==6) then((xBF N (Val.n (List.getD x0 (Int.toNat x4) Ty.val.dflt))).bind fun r2=>some (r2,true)) else((xEe N n x0 (IntKind.i64.wrap (x4+1)) b2))) else none) else(some ((Val.mk 0 0 0 [] [] [] []),false))
def xJl(N:Nat)(a0:List Val):Option (Val × Bool):=(xEe N N a0 0 (Val.mk 0 0 0 [] [] [] []))
def xGA(a0:List Val)(a1:List Int):List Arg:= [.val (.v false [.sl .ro .val a0]), .val (.v false [.sl .ro .int a1])]
def xCp(r:Val × Bool):CallO:=⟨.tup [(true,(Va .own r.1)),(false, [.bool r.2])], [], []⟩
def xEf(N:Nat):Nat→(List Val)→(List Int)→Int→Val→Option (Val × Bool)
 |0,_,_,_,_=>none
 |n+1,x0,x1,x8,b4=>bif(decide (x8<(List.length x0:Int))) then(if(0:Int)≤x8∧x8<(List.length x0) then if(0:Int)≤x8∧x8<(List.length x1) then bif(((Val.kind (List.getD x0 (Int.toNat x8) Ty.val.dflt)):Int) != (List.getD x1 (Int.toNat x8) Ty.int.dflt)) then((xBF N 4).bind fun r1=>some (r1,true)) else((xEf N n x0 x1 (IntKind.i64.wrap (x8+1)) b4)) else none else none) else(some ((Val.mk 0 0 0 [] [] [] []),false))
def xIf(N:Nat)(a0:List Val)(a1:List Int):Option (Val × Bool):=(xJl N a0).bind fun r1=>bif r1.2 then(some (r1.1,true)) else((xEf N N a0 a1 0 (Val.mk 0 0 0 [] [] [] [])))
def xHB(a0:List Str)(a1:Str):List Arg:= [.val (.v false [.sl .ro .str a0]), .val (.v false [.str a1])]
def xE3(r:Int):CallO:=⟨.v false [.int .i64 r], [], []⟩
def xE2(N:Nat):Nat→(List Str)→Str→Int→Option (Int)
 |0,_,_,_=>none
 |n+1,x0,x1,x5=>bif(decide (x5<(List.length x0:Int))) then(if(0:Int)≤x5∧x5<(List.length x0) then bif(((List.getD x0 (Int.toNat x5) Ty.str.dflt):Str)==x1) then(some x5) else((xE2 N n x0 x1 (IntKind.i64.wrap (x5+1)))) else none) else(some (-1))
def xJh(N:Nat)(a0:List Str)(a1:Str):Option (Int):=(xE2 N N a0 a1 0)
def xCT(a0:Val)(a1:Str):List Arg:= [.val (.v true (Va .ro a0)), .val (.v false [.str a1])]
def xAF(r:Int):CallO:=⟨.v false [.int .i64 r], [], []⟩
def xCm(N:Nat)(a0:Val)(a1:Str):Option (Int):=(xJh N (Val.columns a0) a1).bind fun r1=>some r1
def xHF(a0:List Org)(a1:List Org):List Arg:= [.val (.v false [.sl .ro .org a0]), .val (.v false [.sl .ro .org a1])]
def xFG(r:(List Org)):CallO:=⟨.v false [.sl .own .org r], [], []⟩
def xBH(N:Nat):Nat→(List Org)→(List Org)→(List Org)→Int→Int→Option ((List Org))
 |0,_,_,_,_,_=>none
 |n+1,x0,x1,x5,x6,x7=>bif(decide (x6<(List.length x0:Int))) then(bif(x7==(List.length x1:Int)) then(if(0:Int)≤x6∧x6<(List.length x0) then if List.length x5+List.length [(List.getD x0 (Int.toNat x6) Ty.org.dflt)]≤Lim then(xBH N n x0 x1 (x5++ [(List.getD x0 (Int.toNat x6) Ty.org.dflt)]) (IntKind.i64.wrap (x6+1)) x7) else none else none) else(if(0:Int)≤x6∧x6<(List.length x0) then if(0:Int)≤x7∧x7<(List.length x1) then(xFn N (List.getD x0 (Int.toNat x6) Ty.org.dflt) (List.getD x1 (Int.toNat x7) Ty.org.dflt)).bind fun r1=>bif r1 then(if List.length x5+List.length [(List.getD x0 (Int.toNat x6) Ty.org.dflt)]≤Lim then(xBH N n x0 x1 (x5++ [(List.getD x0 (Int.toNat x6) Ty.org.dflt)]) (IntKind.i64.wrap (x6+1)) x7) else none) else(bif(x6==(List.length x0:Int)) then(if List.length x5+List.length [(List.getD x1 (Int.toNat x7) Ty.org.dflt)]≤Lim then(xBH N n x0 x1 (x5++ [(List.getD x1 (Int.toNat x7) Ty.org.dflt)]) x6 (IntKind.i64.wrap (x7+1))) else none) else((xFn N (List.getD x1 (Int.toNat x7) Ty.org.dflt) (List.getD x0 (Int.toNat x6) Ty.org.dflt)).bind fun r2=>bif r2 then(if List.length x5+List.length [(List.getD x1 (Int.toNat x7) Ty.org.dflt)]≤Lim then(xBH N n x0 x1 (x5++ [(List.getD x1 (Int.toNat x7) Ty.org.dflt)]) x6 (IntKind.i64.wrap (x7+1))) else none) else(if List.length x5+List.length [(List.getD x0 (Int.toNat x6) Ty.org.dflt)]≤Lim then(xBH N n x0 x1 (x5++ [(List.getD x0 (Int.toNat x6) Ty.org.dflt)]) (IntKind.i64.wrap (x6+1)) (IntKind.i64.wrap (x7+1))) else none))) else none else none)) else(bif(decide (x7<(List.length x1:Int))) then(bif(x7==(List.length x1:Int)) then(if(0:Int)≤x6∧x6<(List.length x0) then if List.length x5+List.length [(List.getD x0 (Int.toNat x6) Ty.org.dflt)]≤Lim then(xBH N n x0 x1 (x5++ [(List.getD x0 (Int.toNat x6) Ty.org.dflt)]) (IntKind.i64.wrap (x6+1)) x7)
      else none else none) else(bif(x6==(List.length x0:Int)) then(if(0:Int)≤x7∧x7<(List.length x1) then if List.length x5+List.length [(List.getD x1 (Int.toNat x7) Ty.org.dflt)]≤Lim then(xBH N n x0 x1 (x5++ [(List.getD x1 (Int.toNat x7) Ty.org.dflt)]) x6 (IntKind.i64.wrap (x7+1))) else none else none) else(if(0:Int)≤x7∧x7<(List.length x1) then if(0:Int)≤x6∧x6<(List.length x0) then(xFn N (List.getD x1 (Int.toNat x7) Ty.org.dflt) (List.getD x0 (Int.toNat x6) Ty.org.dflt)).bind fun r1=>bif r1 then(if List.length x5+List.length [(List.getD x1 (Int.toNat x7) Ty.org.dflt)]≤Lim then(xBH N n x0 x1 (x5++ [(List.getD x1 (Int.toNat x7) Ty.org.dflt)]) x6 (IntKind.i64.wrap (x7+1))) else none) else(if List.length x5+List.length [(List.getD x0 (Int.toNat x6) Ty.org.dflt)]≤Lim then(xBH N n x0 x1 (x5++ [(List.getD x0 (Int.toNat x6) Ty.org.dflt)]) (IntKind.i64.wrap (x6+1)) (IntKind.i64.wrap (x7+1))) else none) else none else none))) else(some x5))
def xIg(N:Nat)(a0:List Org)(a1:List Org):Option ((List Org)):=(xBH N N a0 a1 [] 0 0)
def xH6(a0:Rowd)(a1:Rowd)(a2:Int):List Arg:= [.val (.v true [.sl .ro .int (Rowd.cells a0), .sl .ro .org (Rowd.frm a0)]), .val (.v true [.sl .ro .int (Rowd.cells a1), .sl .ro .org (Rowd.frm a1)]), .val (.v false [.int .i64 a2])]
def xG3(r:Rowd):CallO:=⟨.v true [.sl .own .int (Rowd.cells r), .sl .own .org (Rowd.frm r)], [], []⟩
def xI6(N:Nat)(a0:Rowd)(a1:Rowd)(a2:Int):Option (Rowd):=if 0+List.length (Rowd.cells a0)≤Lim then(xIg N (Rowd.frm a0) (Rowd.frm a1)).bind fun r1=>if(0:Int)≤a2∧a2≤(List.length (Rowd.cells a1)) then if List.length ([]++(Rowd.cells a0))+List.length (List.take (Int.toNat a2) (Rowd.cells a1))≤Lim then if(0:Int)≤(IntKind.i64.wrap (a2+1))∧(IntKind.i64.wrap (a2+1))≤(List.length (Rowd.cells a1)) then if List.length (([]++(Rowd.cells a0))++(List.take (Int.toNat a2) (Rowd.cells a1)))+List.length (List.drop (Int.toNat (IntKind.i64.wrap (a2+1))) (Rowd.cells a1))≤Lim then some (Rowd.mk ((([]++(Rowd.cells a0))++(List.take (Int.toNat a2) (Rowd.cells a1)))++(List.drop (Int.toNat (IntKind.i64.wrap (a2+1))) (Rowd.cells a1))) r1) else none else none else none else none else none
def xD5(a0:Val)(a1:Val)(a2:Val):List Arg:= [.val (.v true (Va .ro a0)), .val (.v true (Va .ro a1)), .val (.v true (Va .ro a2))]
def xBJ(r:Val):CallO:=⟨.v true (Va .own r), [], []⟩
def xE4(N:Nat)(k15:Int→Int→Int→Val→Val→Val→Val→Option (Val)):Nat→Int→Int→Int→Int→Val→Val→Val→Val→Option (Val)
 |0,_,_,_,_,_,_,_,_=>none
 |n+1,x9,x10,x12,x13,b4,b5,b6,b11=>bif(decide (x13<(List.length (Val.rows b5):Int))) then(if(0:Int)≤x12∧x12<(List.length (Val.rows b4)) then if(0:Int)≤x9∧x9<(List.length (Rowd.cells (List.getD (Val.rows b4) (Int.toNat x12) Ty.row.dflt))) then if(0:Int)≤x13∧x13<(List.length (Val.rows b5)) then if(0:Int)≤x10∧x10<(List.length (Rowd.cells (List.getD (Val.rows b5) (Int.toNat x13) Ty.row.dflt))) then bif(((List.getD (Rowd.cells (List.getD (Val.rows b4) (Int.toNat x12) Ty.row.dflt)) (Int.toNat x9) Ty.int.dflt):Int)==(List.getD (Rowd.cells (List.getD (Val.rows b5) (Int.toNat x13) Ty.row.dflt)) (Int.toNat x10) Ty.int.dflt)) then((xI6 N (List.getD (Val.rows b4) (Int.toNat x12) Ty.row.dflt) (List.getD (Val.rows b5) (Int.toNat x13) Ty.row.dflt) x10).bind fun r1=>if List.length (Val.rows b11)+List.length [r1]≤Lim then(xE4 N k15 n x9 x10 x12 (IntKind.i64.wrap (x13+1)) b4 b5 b6 (Val.mk (Val.kind b11) (Val.n b11) (Val.step b11) (Val.text b11) (Val.list b11) (Val.columns b11) ((Val.rows b11)++ [r1]))) else none) else((xE4 N k15 n x9 x10 x12 (IntKind.i64.wrap (x13+1)) b4 b5 b6 b11)) else none else none else none else none) else((k15 x9 x10 (IntKind.i64.wrap (x12+1)) b4 b5 b6 b11))
def xEd(N:Nat):Nat→Int→Int→Int→Val→Val→Val→Val→Option (Val)
 |0,_,_,_,_,_,_,_=>none
 |n+1,x9,x10,x12,b4,b5,b6,b11=>bif(decide (x12<(List.length (Val.rows b4):Int))) then((xE4 N (fun z0 z1 z2 z3 z4 z5 z6=>(xEd N n z0 z1 z2 z3 z4 z5 z6)) N x9 x10 x12 0 b4 b5 b6 b11)) else(bif(decide ((List.length (Val.rows b11):Int)>12)) then((xBF N 6).bind fun r1=>some r1) else(some b11))
def xFW(N:Nat)(a0:Val)(a1:Val)(a2:Val):Option (Val):=(xIf N [(Val.re a0),(Val.re a1),(Val.re a2)] [2,5,5]).bind fun r1=>bif r1.2 then(some r1.1) else((xCm N a1 (Val.text a0)).bind fun r2=>(xCm N a2 (Val.text a0)).bind fun r3=>bif(decide (r2<0)) then((xBF N 7).bind fun r4=>some r4) else(bif(decide (r3<0)) then((xBF N 7).bind fun r4=>some r4) else(if 0+List.length (Val.columns a1)≤Lim then if(0:Int)≤r3∧r3≤(List.length (Val.columns a2)) then if List.length ([]++(Val.columns a1))+List.length (List.take (Int.toNat r3) (Val.columns a2))≤Lim then if(0:Int)≤(IntKind.i64.wrap (r3+1))∧(IntKind.i64.wrap (r3+1))≤(List.length (Val.columns a2)) then if List.length (([]++(Val.columns a1))++(List.take (Int.toNat r3) (Val.columns a2)))+List.length (List.drop (Int.toNat (IntKind.i64.wrap (r3+1))) (Val.columns a2))≤Lim then(xF7 N ((([]++(Val.columns a1))++(List.take (Int.toNat r3) (Val.columns a2)))++(List.drop (Int.toNat (IntKind.i64.wrap (r3+1))) (Val.columns a2)))).bind fun r4=>bif(!r4) then((xBF N 7).bind fun r5=>some r5) else(bif(decide (((List.length ((([]++(Val.columns a1))++(List.take (Int.toNat r3) (Val.columns a2)))++(List.drop (Int.toNat (IntKind.i64.wrap (r3+1))) (Val.columns a2))):Int):Int)>4)) then((xBF N 6).bind fun r5=>some r5) else((xEd N N r2 r3 0 a1 a2 (Val.mk 0 0 0 [] [] [] []) (Val.mk 5 0 0 [] [] ((([]++(Val.columns a1))++(List.take (Int.toNat r3) (Val.columns a2)))++(List.drop (Int.toNat (IntKind.i64.wrap (r3+1))) (Val.columns a2))) [])))) else none else none else none else none else none)))
def xD3(a0:Int)(a1:Int)(a2:Int):List Arg:= [.val (.v false [.int .i64 a0]), .val (.v false [.int .i64 a1]), .val (.v false [.int .i64 a2])]
def xCr(r:Bool):CallO:=⟨.v false [.bool r], [], []⟩
def xGw(N:Nat)(a0:Int)(a1:Int)(a2:Int):Option (Bool):=bif(decide (a1≤a0)) then(some (decide (a0≤a2))) else(some false)
def xDm(a0:Int):List Arg:= [.val (.v false [.int .i64 a0])]
def xBQ(r:Bool):CallO:=⟨.v false [.bool r], [], []⟩
def xFg(N:Nat)(a0:Int):Option (Bool):=(xGw N a0 (-1000000000) 1000000000).bind fun r1=>some r1
def xFO(a0:Str):List Arg:= [.val (.v false [.str a0])]
def xCx(r:Bool):CallO:=⟨.v false [.bool r], [], []⟩
def xEP(N:Nat):Nat→Str→Int→Option (Bool)
 |0,_,_=>none
 |n+1,x0,x3=>bif(decide (x3<(List.length x0:Int))) then(if(0:Int)≤x3∧x3<(List.length x0) then bif(decide ((((List.getD x0 (Int.toNat x3) 0).toNat:Int):Int)<32)) then(some false) else(bif(decide ((((List.getD x0 (Int.toNat x3) 0).toNat:Int):Int)>126)) then(some false) else(bif((((List.getD x0 (Int.toNat x3) 0).toNat:Int):Int)==34) then(some false) else((xEP N n x0 (IntKind.i64.wrap (x3+1)))))) else none) else(some (decide ((List.length x0:Int)≤20)))
def xG4(N:Nat)(a0:Str):Option (Bool):=(xEP N N a0 0)
def xGU(a0:Str):List Arg:= [.val (.v false [.str a0])]
def xCq(r:Bool):CallO:=⟨.v false [.bool r], [], []⟩
def xD2(N:Nat):Nat→Str→Int→Option (Bool)
 |0,_,_=>none
 |n+1,x0,x3=>bif(decide (x3<(List.length x0:Int))) then(if(0:Int)≤x3∧x3<(List.length x0) then bif(decide ((((List.getD x0 (Int.toNat x3) 0).toNat:Int):Int)≥97)) then(bif(!(decide ((((List.getD x0 (Int.toNat x3) 0).toNat:Int):Int)≤122))) then(bif(x3==0) then(some false) else(bif(decide ((((List.getD x0 (Int.toNat x3) 0).toNat:Int):Int)<48)) then(some false) else(bif(decide ((((List.getD x0 (Int.toNat x3) 0).toNat:Int):Int)>57)) then(some false) else((xD2 N n x0 (IntKind.i64.wrap (x3+1))))))) else((xD2 N n x0 (IntKind.i64.wrap (x3+1))))) else(bif(x3==0) then(some false) else(bif(decide ((((List.getD x0 (Int.toNat x3) 0).toNat:Int):Int)<48)) then(some false) else(bif(decide ((((List.getD x0 (Int.toNat x3) 0).toNat:Int):Int)>57)) then(some false) else((xD2 N n x0 (IntKind.i64.wrap (x3+1))))))) else none) else((xGw N (List.length x0:Int) 1 8).bind fun r1=>some r1)
def xJW(N:Nat)(a0:Str):Option (Bool):=(xD2 N N a0 0)
def xAy(a0:Str):List Arg:= [.val (.v false [.str a0])]
def xAt(r:Int):CallO:=⟨.v false [.int .i64 r], [], []⟩
def xGm(N:Nat)(a0:Str):Option (Int):=bif((a0:Str)== [99,108,111,99,107]) then(some 0) else(bif((a0:Str)== [108,101,110]) then(some 1) else(bif((a0:Str)== [115,117,109]) then(some 1) else(bif((a0:Str)== [114,111,119,115]) then(some 1) else(bif((a0:Str)== [99,104,97,110,99,101]) then(some 1) else(bif((a0:Str)== [102,105,108,101]) then(some 1) else(bif((a0:Str)== [116,97,107,101]) then(some 2) else(bif((a0:Str)== [115,107,105,112]) then(some 2) else(bif((a0:Str)== [114,97,110,103,101]) then(some 2) else(bif((a0:Str)== [110,116,104]) then(some 2) else(bif((a0:Str)== [107,101,101,112]) then(some 2) else(bif((a0:Str)== [99,111,108,117,109,110]) then(some 2) else(bif((a0:Str)== [116,97,98,108,101]) then(some 2) else(bif((a0:Str)== [119,104,101,114,101]) then(some 3) else(bif((a0:Str)== [103,114,111,117,112]) then(some 3) else(bif((a0:Str)== [106,111,105,110]) then(some 3) else(bif((a0:Str)== [97,100,100]) then(some 4) else(some (-1))))))))))))))))))
def xCg(a0:Str):List Arg:= [.val (.v false [.str a0])]
def xBZ(r:Bool):CallO:=⟨.v false [.bool r], [], []⟩
def xGu(N:Nat)(a0:Str):Option (Bool):=bif((a0:Str)== [108,101,116]) then(some true) else(bif((a0:Str)== [105,110]) then(some true) else(bif((a0:Str)== [105,102]) then(some true) else(bif((a0:Str)== [116,104,101,110]) then(some true) else(bif((a0:Str)== [101,108,115,101]) then(some true) else(bif((a0:Str)== [102,111,114]) then(some true) else(bif((a0:Str)== [100,111]) then(some true) else((xGm N a0).bind fun r1=>some (decide (r1≥0)))))))))
def xDS(a0:Str):List Arg:= [.val (.v false [.str a0])]
def xCR(r:Bool):CallO:=⟨.v false [.bool r], [], []⟩
def xF3(N:Nat)(a0:Str):Option (Bool):=(xJW N a0).bind fun r1=>bif r1 then((xGu N a0).bind fun r2=>some (!r2)) else(some false)
def xGs(a0:List Str)(a1:Str):List Arg:= [.val (.v false [.sl .ro .str a0]), .val (.v false [.str a1])]
def xCA(r:Int):CallO:=⟨.v false [.int .i64 r], [], []⟩
def xEO(N:Nat):Nat→Str→(List Str)→Int→Int→Option (Int)
 |0,_,_,_,_=>none
 |n+1,x1,x7,x8,x9=>bif(decide (x9<x8)) then(if(0:Int)≤x9∧x9<(List.length x7) then bif(((List.getD x7 (Int.toNat x9) Ty.str.dflt):Str)==x1) then(some x9) else((xEO N n x1 x7 x8 (IntKind.i64.wrap (x9+1)))) else none) else(some (-1))
def xHf(N:Nat)(a0:List Str)(a1:Str):Option (Int):=(xEO N N a1 a0 (List.length a0:Int) 0)
def xEM(a0:List Str):List Arg:= [.val (.v false [.sl .ro .str a0])]
def xBq(r:Bool):CallO:=⟨.v false [.bool r], [], []⟩
def xDp(N:Nat):Nat→(List Str)→(List Str)→Int→Int→Option (Bool)
 |0,_,_,_,_=>none
 |n+1,x0,x5,x6,x7=>bif(decide (x7<x6)) then(if(0:Int)≤x7∧x7<(List.length x5) then(xHf N x0 (List.getD x5 (Int.toNat x7) Ty.str.dflt)).bind fun r1=>bif(r1 != x7) then(some false) else((xDp N n x0 x5 x6 (IntKind.i64.wrap (x7+1)))) else none) else(some true)
def xFb(N:Nat)(a0:List Str):Option (Bool):=(xDp N N a0 a0 (List.length a0:Int) 0)
def xEi(a0:List Str):List Arg:= [.val (.v false [.sl .ro .str a0])]
def xB0(r:Bool):CallO:=⟨.v false [.bool r], [], []⟩
def xEj(N:Nat):Nat→(List Str)→(List Str)→Int→Int→Option (Bool)
 |0,_,_,_,_=>none
 |n+1,x0,x5,x6,x7=>bif(decide (x7<x6)) then(if(0:Int)≤x7∧x7<(List.length x5) then(xF3 N (List.getD x5 (Int.toNat x7) Ty.str.dflt)).bind fun r1=>bif(!r1) then(some false) else((xEj N n x0 x5 x6 (IntKind.i64.wrap (x7+1)))) else none) else((xGw N (List.length x0:Int) 1 4).bind fun r1=>bif r1 then((xFb N x0).bind fun r2=>some r2) else(some false))
def xHv(N:Nat)(a0:List Str):Option (Bool):=(xEj N N a0 a0 (List.length a0:Int) 0)
def xES(a0:Val):List Arg:= [.val (.v true (Va .ro a0))]
def xBs(r:Bool):CallO:=⟨.v false [.bool r], [], []⟩
def xDJ(N:Nat)(k4:(List Rowd)→Int→Int→Val→Option (Bool)):Nat→(List Rowd)→Int→Int→(List Org)→Int→Int→Val→Rowd→Option (Bool)
 |0,_,_,_,_,_,_,_,_=>none
 |n+1,x20,x21,x22,x45,x46,x47,b1,b4=>bif(decide (x47<x46)) then(if(0:Int)≤x47∧x47<(List.length x45) then bif(decide (((Org.cell (List.getD x45 (Int.toNat x47) Ty.org.dflt)):Int)<0)) then(some false) else(bif(decide (((Org.row (List.getD x45 (Int.toNat x47) Ty.org.dflt)):Int)<0)) then(some false) else(bif(decide (x47>0)) then(if(0:Int)≤(IntKind.i64.wrap (x47 - 1))∧(IntKind.i64.wrap (x47 - 1))<(List.length (Rowd.frm b4)) then(xDT N (List.getD (Rowd.frm b4) (Int.toNat (IntKind.i64.wrap (x47 - 1))) Ty.org.dflt) (List.getD x45 (Int.toNat x47) Ty.org.dflt)).bind fun r1=>bif(!r1) then(some false) else((xDJ N k4 n x20 x21 x22 x45 x46 (IntKind.i64.wrap (x47+1)) b1 b4)) else none) else((xDJ N k4 n x20 x21 x22 x45 x46 (IntKind.i64.wrap (x47+1)) b1 b4)))) else none) else((k4 x20 x21 (IntKind.i64.wrap (x22+1)) b1))
def xEU(N:Nat)(k4:(List Rowd)→Int→Int→Val→Option (Bool)):Nat→(List Rowd)→Int→Int→(List Int)→Int→Int→Val→Rowd→Option (Bool)
 |0,_,_,_,_,_,_,_,_=>none
 |n+1,x20,x21,x22,x34,x35,x36,b1,b4=>bif(decide (x36<x35)) then(if(0:Int)≤x36∧x36<(List.length x34) then(xFg N (List.getD x34 (Int.toNat x36) Ty.int.dflt)).bind fun r1=>bif(!r1) then(some false) else((xEU N k4 n x20 x21 x22 x34 x35 (IntKind.i64.wrap (x36+1)) b1 b4)) else none) else((xDJ N k4 N x20 x21 x22 (Rowd.frm b4) (List.length (Rowd.frm b4):Int) 0 b1 b4))
def xET(N:Nat):Nat→(List Rowd)→Int→Int→Val→Option (Bool)
 |0,_,_,_,_=>none
 |n+1,x20,x21,x22,b1=>bif(decide (x22<x21)) then(if(0:Int)≤x22∧x22<(List.length x20) then bif(((List.length (Rowd.cells (List.getD x20 (Int.toNat x22) Ty.row.dflt)):Int):Int) != (List.length (Val.columns b1):Int)) then(some false) else((xEU N (fun z0 z1 z2 z3=>(xET N n z0 z1 z2 z3)) N x20 x21 x22 (Rowd.cells (List.getD x20 (Int.toNat x22) Ty.row.dflt)) (List.length (Rowd.cells (List.getD x20 (Int.toNat x22) Ty.row.dflt)):Int) 0 b1 (List.getD x20 (Int.toNat x22) Ty.row.dflt))) else none) else(some true)
def xHi(N:Nat)(a0:Val):Option (Bool):=(xHv N (Val.columns a0)).bind fun r1=>bif(!r1) then(some false) else(bif(decide ((List.length (Val.rows a0):Int)>12)) then(some false) else((xET N N (Val.rows a0) (List.length (Val.rows a0):Int) 0 a0)))
def xEN(a0:Val):List Arg:= [.val (.v true (Va .ro a0))]
def xDc(r:Int):CallO:=⟨.v false [.int .i64 r], [], []⟩
def xFw(N:Nat)(q0:Val→Option (Int)):Nat→Int→(List Val)→Int→Int→Option (Int)
 |0,_,_,_,_=>none
 |n+1,x3,x7,x8,x9=>bif(decide (x9<x8)) then(if(0:Int)≤x9∧x9<(List.length x7) then(q0 (List.getD x7 (Int.toNat x9) Ty.val.dflt)).bind fun r1=>(xFw N q0 n (if r1>x3 then r1 else x3) x7 x8 (IntKind.i64.wrap (x9+1))) else none) else(some (IntKind.i64.wrap (x3+1)))
def xHO(N:Nat)(q0:Val→Option (Int))(a0:Val):Option (Int):=(xFw N q0 N 0 (Val.list a0) (List.length (Val.list a0):Int) 0)
def xEq(N:Nat):Nat→Val→Option (Int)
 |0,_=>none
 |d+1,a0=>xHO N (xEq N d) a0
def xH7(N:Nat)(a0:Val):Option (Int):=xEq N N a0
def xAe(a0:Val):List Arg:= [.val (.v true (Va .ro a0))]
def xAb(r:Bool):CallO:=⟨.v false [.bool r], [], []⟩
def xBy(N:Nat)(q0:Val→Option (Bool)):Nat→(List Val)→Int→Int→Val→Option (Bool)
 |0,_,_,_,_=>none
 |n+1,x124,x125,x126,b1=>bif(decide (x126<x125)) then(if(0:Int)≤x126∧x126<(List.length x124) then bif(((Val.kind (List.getD x124 (Int.toNat x126) Ty.val.dflt)):Int) != 1) then(bif(((Val.kind (List.getD x124 (Int.toNat x126) Ty.val.dflt)):Int) != 2) then(bif(((Val.kind (List.getD x124 (Int.toNat x126) Ty.val.dflt)):Int) != 3) then(some false) else((q0 (List.getD x124 (Int.toNat x126) Ty.val.dflt)).bind fun r1=>bif(!r1) then(some false) else((xBy N q0 n x124 x125 (IntKind.i64.wrap (x126+1)) b1)))) else((q0 (List.getD x124 (Int.toNat x126) Ty.val.dflt)).bind fun r1=>bif(!r1) then(some false) else((xBy N q0 n x124 x125 (IntKind.i64.wrap (x126+1)) b1)))) else((q0 (List.getD x124 (Int.toNat x126) Ty.val.dflt)).bind fun r1=>bif(!r1) then(some false) else((xBy N q0 n x124 x125 (IntKind.i64.wrap (x126+1)) b1))) else none) else(bif((Val.n b1)==0) then(bif((Val.step b1)==0) then(bif(((Val.text b1):Str)== []) then(bif((List.length (Val.columns b1):Int)==0) then(bif((List.length (Val.rows b1):Int)==0) then(bif(decide ((List.length (Val.list b1):Int)≤8)) then((xH7 N b1).bind fun r1=>some (decide (r1≤3))) else(some false)) else(some false)) else(some false)) else(some false)) else(some false)) else(some false))
def xDO(N:Nat)(q0:Val→Option (Bool))(a0:Val):Option (Bool):=bif((List.length (Val.list a0):Int)==0) then(bif((List.length (Val.columns a0):Int)==0) then(bif((Val.kind a0)==1) then(bif((List.length (Val.rows a0):Int)==0) then(bif((Val.step a0)==0) then(bif(((Val.text a0):Str)== []) then((xFg N (Val.n a0)).bind fun r1=>some r1) else(some false)) else(some false)) else(some false)) else(bif((Val.kind a0)==2) then(bif((List.length (Val.rows a0):Int)==0) then(bif((Val.n a0)==0) then(bif((Val.step a0)==0) then((xG4 N (Val.text a0)).bind fun r1=>some r1) else(some false)) else(some false)) else(some false)) else(bif((Val.kind a0)==4) then(bif((List.length (Val.rows a0):Int)==0) then(bif(((Val.text a0):Str)== []) then((xFg N (Val.n a0)).bind fun r1=>bif r1 then((xFg N (Val.step a0)).bind fun r2=>some r2) else(some false)) else(some false)) else(some false)) else(bif((Val.kind a0)==6) then(bif((List.length (Val.rows a0):Int)==0) then(bif((Val.step a0)==0) then(bif(((Val.text a0):Str)== []) then((xGw N (Val.n a0) 1 8).bind fun r1=>some r1) else(some false)) else(some false)) else(some false)) else(bif((Val.kind a0)==5) then(bif((Val.n a0)==0) then(bif((Val.step a0)==0) then(bif(((Val.text a0):Str)== []) then((xHi N a0).bind fun r1=>some r1) else(some false)) else(some false)) else(some false)) else(bif((Val.kind a0)==3) then((xBy N q0 N (Val.list a0) (List.length (Val.list a0):Int) 0 a0)) else(some false))))))) else(bif((Val.kind a0)==1) then(some false) else(bif((Val.kind a0)==2) then(some false) else(bif((Val.kind a0)==4) then(some false) else(bif((Val.kind a0)==6) then(
     some false) else(bif((Val.kind a0)==5) then(bif((Val.n a0)==0) then(bif((Val.step a0)==0) then(bif(((Val.text a0):Str)== []) then((xHi N a0).bind fun r1=>some r1) else(some false)) else(some false)) else(some false)) else(bif((Val.kind a0)==3) then((xBy N q0 N (Val.list a0) (List.length (Val.list a0):Int) 0 a0)) else(some false)))))))) else(bif((Val.kind a0)==1) then(some false) else(bif((Val.kind a0)==2) then(some false) else(bif((Val.kind a0)==4) then(some false) else(bif((Val.kind a0)==6) then(some false) else(bif((Val.kind a0)==5) then(bif((Val.n a0)==0) then(bif((Val.step a0)==0) then(bif(((Val.text a0):Str)== []) then(some false) else(some false)) else(some false)) else(some false)) else(bif((Val.kind a0)==3) then((xBy N q0 N (Val.list a0) (List.length (Val.list a0):Int) 0 a0)) else(some false)))))))
def xBz(N:Nat):Nat→Val→Option (Bool)
 |0,_=>none
 |d+1,a0=>xDO N (xBz N d) a0
def xHP(N:Nat)(a0:Val):Option (Bool):=xBz N N a0
def xCI(a0:Int):List Arg:= [.val (.v false [.int .i64 a0])]
def xAS(r:Val):CallO:=⟨.v true (Va .own r), [], []⟩
def xBr(N:Nat)(a0:Int):Option (Val):=some (Val.mk 6 a0 0 [] [] [] [])
def xC5(a0:List Val):List Arg:= [.val (.v false [.sl .ro .val a0])]
def xDx(r:Val × Bool × Bool):CallO:=⟨.tup [(true, [.int .i64 (Val.kind r.1), .int .i64 (Val.n r.1), .int .i64 (Val.step r.1), .str (Val.text r.1), .sl .ro .val (Val.list r.1), .sl .ro .str (Val.columns r.1), .sl .ro .row (Val.rows r.1)]),(false, [.bool r.2.1])], [], []⟩
def xDw(r:Val × Bool × Bool):CallO:=⟨.tup [(true, [.int .i64 (Val.kind r.1), .int .i64 (Val.n r.1), .int .i64 (Val.step r.1), .str (Val.text r.1), .sl .own .val (Val.list r.1), .sl .own .str (Val.columns r.1), .sl .own .row (Val.rows r.1)]),(false, [.bool r.2.1])], [], []⟩
def xB8(r:Val × Bool × Bool):CallO:=bif r.2.2 then xDx r else xDw r
def xCG(N:Nat):Nat→(List Val)→Int→Int→Val→Option (Val × Bool × Bool)
 |0,_,_,_,_=>none
 |n+1,x6,x7,x8,b2=>bif(decide (x8<x7)) then(if(0:Int)≤x8∧x8<(List.length x6) then(xHP N (List.getD x6 (Int.toNat x8) Ty.val.dflt)).bind fun r1=>bif(!r1) then((xBr N 4).bind fun r2=>some (r2,true,false)) else(bif(((Val.kind (List.getD x6 (Int.toNat x8) Ty.val.dflt)):Int)==6) then(some ((List.getD x6 (Int.toNat x8) Ty.val.dflt),true,true)) else((xCG N n x6 x7 (IntKind.i64.wrap (x8+1)) b2))) else none) else(some ((Val.mk 0 0 0 [] [] [] []),false,false))
def xGF(N:Nat)(a0:List Val):Option (Val × Bool × Bool):=(xCG N N a0 (List.length a0:Int) 0 (Val.mk 0 0 0 [] [] [] []))
def xDv(a0:List Int)(a1:List Val):List Arg:= [.val (.v false [.sl .ro .int a0]), .val (.v false [.sl .ro .val a1])]
def xHx(r:Val × Bool × Bool):CallO:=⟨.tup [(true, [.int .i64 (Val.kind r.1), .int .i64 (Val.n r.1), .int .i64 (Val.step r.1), .str (Val.text r.1), .sl .ro .val (Val.list r.1), .sl .ro .str (Val.columns r.1), .sl .ro .row (Val.rows r.1)]),(false, [.bool r.2.1])], [], []⟩
def xCJ(r:Val × Bool × Bool):CallO:=⟨.tup [(true, [.int .i64 (Val.kind r.1), .int .i64 (Val.n r.1), .int .i64 (Val.step r.1), .str (Val.text r.1), .sl .own .val (Val.list r.1), .sl .own .str (Val.columns r.1), .sl .own .row (Val.rows r.1)]),(false, [.bool r.2.1])], [], []⟩
def xC8(r:Val × Bool × Bool):CallO:=⟨.tup [(true, [.int .i64 (Val.kind r.1), .int .i64 (Val.n r.1), .int .i64 (Val.step r.1), .str (Val.text r.1), .sl .ro .val [], .sl .ro .str [], .sl .ro .row []]),(false, [.bool r.2.1])], [], []⟩
def xCd(r:Val × Bool × Bool):CallO:=bif r.2.2 then xHx r else xCJ r
def xCZ(N:Nat):Nat→(List Int)→(List Val)→Int→Int→Val→Option (Val × Bool × Bool)
 |0,_,_,_,_,_=>none
 |n+1,x0,x17,x18,x19,b4=>bif(decide (x19<x18)) then(if(0:Int)≤x19∧x19<(List.length x17) then if(0:Int)≤x19∧x19<(List.length x0) then bif(((Val.kind (List.getD x17 (Int.toNat x19) Ty.val.dflt)):Int) != (List.getD x0 (Int.toNat x19) Ty.int.dflt)) then((xBr N 4).bind fun r1=>some (r1,true,false)) else((xCZ N n x0 x17 x18 (IntKind.i64.wrap (x19+1)) b4)) else none else none) else(some ((Val.mk 0 0 0 [] [] [] []),false,false))
def xGV(N:Nat)(a0:List Int)(a1:List Val):Option (Val × Bool × Bool):=(xGF N a1).bind fun r1=>bif r1.2.2 then(bif r1.2.1 then(some (r1.1,true,true)) else((xCZ N N a0 a1 (List.length a1:Int) 0 (Val.mk 0 0 0 [] [] [] [])))) else(bif r1.2.1 then(some (r1.1,true,false)) else((xCZ N N a0 a1 (List.length a1:Int) 0 (Val.mk 0 0 0 [] [] [] []))))
def xFN(a0:Val)(a1:Str):List Arg:= [.val (.v true (Va .ro a0)), .val (.v false [.str a1])]
def xAv(r:Int):CallO:=⟨.v false [.int .i64 r], [], []⟩
def xDI(N:Nat)(a0:Val)(a1:Str):Option (Int):=(xHf N (Val.columns a0) a1).bind fun r1=>some r1
def xHu(a0:List Str)(a1:List Str):List Arg:= [.val (.v false [.sl .ro .str a0]), .val (.v false [.sl .ro .str a1])]
def xB3(r:(List Str)):CallO:=⟨.v false [.sl .own .str r], [], []⟩
def xEb(N:Nat):Nat→(List Str)→(List Str)→(List Str)→Int→Int→Option ((List Str))
 |0,_,_,_,_,_=>none
 |n+1,x1,x5,x9,x10,x11=>bif(decide (x11<x10)) then(if(0:Int)≤x11∧x11<(List.length x9) then(xHf N x1 (List.getD x9 (Int.toNat x11) Ty.str.dflt)).bind fun r1=>bif(decide (r1<0)) then(if List.length x5+List.length [(List.getD x9 (Int.toNat x11) Ty.str.dflt)]≤Lim then(xEb N n x1 (x5++ [(List.getD x9 (Int.toNat x11) Ty.str.dflt)]) x9 x10 (IntKind.i64.wrap (x11+1))) else none) else((xEb N n x1 x5 x9 x10 (IntKind.i64.wrap (x11+1)))) else none) else(some x5)
def xHh(N:Nat)(a0:List Str)(a1:List Str):Option ((List Str)):=(xEb N N a1 [] a0 (List.length a0:Int) 0)
def xFt(a0:List Org)(a1:List Org):List Arg:= [.val (.v false [.sl .ro .org a0]), .val (.v false [.sl .ro .org a1])]
def xCF(r:(List Org)):CallO:=⟨.v false [.sl .own .org r], [], []⟩
def xFx(N:Nat)(a0 a1:List Org):Option (List Org):=zJr a0 a1
def xCh(a0:Val)(a1:Val)(a2:Val):List Arg:= [.val (.v true (Va .ro a0)), .val (.v true (Va .ro a1)), .val (.v true (Va .ro a2))]
def xIE(r:Val × Bool):CallO:=⟨.v true [.int .i64 (Val.kind r.1), .int .i64 (Val.n r.1), .int .i64 (Val.step r.1), .str (Val.text r.1), .sl .ro .val (Val.list r.1), .sl .ro .str (Val.columns r.1), .sl .ro .row (Val.rows r.1)], [], []⟩
def xEa(r:Val × Bool):CallO:=⟨.v true [.int .i64 (Val.kind r.1), .int .i64 (Val.n r.1), .int .i64 (Val.step r.1), .str (Val.text r.1), .sl .own .val (Val.list r.1), .sl .own .str (Val.columns r.1), .sl .own .row (Val.rows r.1)], [], []⟩
def xER(r:Val × Bool):CallO:=⟨.v true [.int .i64 (Val.kind r.1), .int .i64 (Val.n r.1), .int .i64 (Val.step r.1), .str (Val.text r.1), .sl .ro .val [], .sl .ro .str [], .sl .ro .row []], [], []⟩
def xCC(r:Val × Bool):CallO:=bif r.2 then xIE r else xEa r
def xEQ(N:Nat)(k13:Int→Int→(List Rowd)→Int→Int→Val→Val→Val→Option (Val × Bool)):Nat→Int→Int→(List Rowd)→Int→Int→(List Rowd)→Int→Int→Val→Val→Val→Rowd→Option (Val × Bool)
 |0,_,_,_,_,_,_,_,_,_,_,_,_=>none
 |n+1,x9,x10,x69,x70,x71,x76,x77,x78,b5,b6,b12,b14=>bif(decide (x78<x77)) then(if(0:Int)≤x78∧x78<(List.length x76) then if(0:Int)≤x9∧x9<(List.length (Rowd.cells b14)) then if(0:Int)≤x10∧x10<(List.length (Rowd.cells (List.getD x76 (Int.toNat x78) Ty.row.dflt))) then bif((List.getD (Rowd.cells b14) (Int.toNat x9) Ty.int.dflt) != (List.getD (Rowd.cells (List.getD x76 (Int.toNat x78) Ty.row.dflt)) (Int.toNat x10) Ty.int.dflt)) then((xEQ N k13 n x9 x10 x69 x70 x71 x76 x77 (IntKind.i64.wrap (x78+1)) b5 b6 b12 b14)) else(if 0+List.length (Rowd.cells b14)≤Lim then if(0:Int)≤x10∧x10≤(List.length (Rowd.cells (List.getD x76 (Int.toNat x78) Ty.row.dflt))) then if List.length ([]++(Rowd.cells b14))+List.length (List.take (Int.toNat x10) (Rowd.cells (List.getD x76 (Int.toNat x78) Ty.row.dflt)))≤Lim then if(0:Int)≤(IntKind.i64.wrap (x10+1))∧(IntKind.i64.wrap (x10+1))≤(List.length (Rowd.cells (List.getD x76 (Int.toNat x78) Ty.row.dflt))) then if List.length (([]++(Rowd.cells b14))++(List.take (Int.toNat x10) (Rowd.cells (List.getD x76 (Int.toNat x78) Ty.row.dflt))))+List.length (List.drop (Int.toNat (IntKind.i64.wrap (x10+1))) (Rowd.cells (List.getD x76 (Int.toNat x78) Ty.row.dflt)))≤Lim then(xFx N (Rowd.frm b14) (Rowd.frm (List.getD x76 (Int.toNat x78) Ty.row.dflt))).bind fun r1=>if List.length (Val.rows b12)+List.length [(Rowd.mk ((([]++(Rowd.cells b14))++(List.take (Int.toNat x10) (Rowd.cells (List.getD x76 (Int.toNat x78) Ty.row.dflt))))++(List.drop (Int.toNat (IntKind.i64.wrap (x10+1))) (Rowd.cells (List.getD x76 (Int.toNat x78) Ty.row.dflt)))) r1)]≤Lim then(xEQ N k13 n x9 x10 x69 x70 x71 x76 x77 (IntKind.i64.wrap (x78+1)) b5 b6 (Val.mk (Val.kind b12) (Val.n b12) (Val.step b12) (Val.text b12) (Val.list b12) (Val.columns b12) ((Val.rows b12)++ [(Rowd.mk ((([]++(Rowd.cells b14))++(List.take (Int.toNat x10) (Rowd.cells (List.getD x76 (Int.toNat x78) Ty.row.dflt))))++(List.drop (Int.toNat (IntKind.i64.wrap (x10+1))) (Rowd.cells (List.getD x76 (Int.toNat x78) Ty.row.dflt)))) r1)])) b14)
    else none else none else none else none else none else none) else none else none else none) else((k13 x9 x10 x69 x70 (IntKind.i64.wrap (x71+1)) b5 b6 b12))
def xDA(N:Nat):Nat→Int→Int→(List Rowd)→Int→Int→Val→Val→Val→Option (Val × Bool)
 |0,_,_,_,_,_,_,_,_=>none
 |n+1,x9,x10,x69,x70,x71,b5,b6,b12=>bif(decide (x71<x70)) then(if(0:Int)≤x71∧x71<(List.length x69) then(xEQ N (fun z0 z1 z2 z3 z4 z5 z6 z7=>(xDA N n z0 z1 z2 z3 z4 z5 z6 z7)) N x9 x10 x69 x70 x71 (Val.rows b5) (List.length (Val.rows b5):Int) 0 b5 b6 b12 (List.getD x69 (Int.toNat x71) Ty.row.dflt)) else none) else(bif(decide ((List.length (Val.rows b12):Int)>12)) then((xBr N 6).bind fun r1=>some (r1,false)) else(some (b12,false)))
def xGv(N:Nat)(a0:Val)(a1:Val)(a2:Val):Option (Val × Bool):=(xGV N [2,5,5] [(Val.re a0),(Val.re a1),(Val.re a2)]).bind fun r1=>bif r1.2.2 then(if List.isEmpty (Val.list r1.1)=true then if List.isEmpty (Val.columns r1.1)=true then if List.isEmpty (Val.rows r1.1)=true then bif r1.2.1 then(some ((Val.mk (Val.kind r1.1) (Val.n r1.1) (Val.step r1.1) (Val.text r1.1) [] [] []),true)) else((xDI N a1 (Val.text a0)).bind fun r2=>(xDI N a2 (Val.text a0)).bind fun r3=>(xHh N (Val.columns a2) [(Val.text a0)]).bind fun r4=>if 0+List.length (Val.columns a1)≤Lim then if List.length ([]++(Val.columns a1))+List.length r4≤Lim then bif(decide (r2<0)) then((xBr N 7).bind fun r5=>some (r5,false)) else(bif(decide (r3<0)) then((xBr N 7).bind fun r5=>some (r5,false)) else((xFb N (([]++(Val.columns a1))++r4)).bind fun r5=>bif(!r5) then((xBr N 7).bind fun r6=>some (r6,false)) else(bif(decide (((List.length (([]++(Val.columns a1))++r4):Int):Int)>4)) then((xBr N 6).bind fun r6=>some (r6,false)) else((xDA N N r2 r3 (Val.rows a1) (List.length (Val.rows a1):Int) 0 a2 (Val.mk 0 0 0 [] [] [] []) (Val.mk 5 0 0 [] [] (([]++(Val.columns a1))++r4) [])))))) else none else none) else none else none else none) else(bif r1.2.1 then(some (r1.1,false)) else((xDI N a1 (Val.text a0)).bind fun r2=>(xDI N a2 (Val.text a0)).bind fun r3=>(xHh N (Val.columns a2) [(Val.text a0)]).bind fun r4=>if 0+List.length (Val.columns a1)≤Lim then if List.length ([]++(Val.columns a1))+List.length r4≤Lim then bif(decide (r2<0)) then((xBr N 7).bind fun r5=>some (r5,false)) else(bif(decide (r3<0)) then((xBr N 7).bind fun r5 =>
     some (r5,false)) else((xFb N (([]++(Val.columns a1))++r4)).bind fun r5=>bif(!r5) then((xBr N 7).bind fun r6=>some (r6,false)) else(bif(decide (((List.length (([]++(Val.columns a1))++r4):Int):Int)>4)) then((xBr N 6).bind fun r6=>some (r6,false)) else((xDA N N r2 r3 (Val.rows a1) (List.length (Val.rows a1):Int) 0 a2 (Val.mk 0 0 0 [] [] [] []) (Val.mk 5 0 0 [] [] (([]++(Val.columns a1))++r4) [])))))) else none else none))
def xMB(N:Nat):Nat→(List Int)→Int→Int→Option (Int × (List Int))
 |0,_,_,_=>none
 |n+1,x0,x1,x5=>bif(decide (x5<(List.length x0:Int))) then(if(0:Int)≤x5∧x5<(List.length x0) then(xMB N n (List.set x0 (Int.toNat x5) x1) (IntKind.i64.wrap (x1+1)) (IntKind.i64.wrap (x5+1))) else none) else(some (x1,x0))
def xJY(a0:List Int):List Arg:= [.val (.v false [.sl .ro .byte a0])]
def xEW(r:Bool):CallO:=⟨.v false [.bool r], [], []⟩
def xKG(N:Nat)(a0:List Int):Option (Bool):=some (decide ((List.length a0:Int)>1048576))
def xIr(a0:List Int):List Arg:= [.val (.v false [.sl .ro .byte a0])]
def xF1(r:Cur):CallO:=⟨.tup [(false, [.ptr 0 0]),(true,(Cu .ro r))], [], []⟩
def xGJ(N:Nat):Nat→(List Int)→Int→Int→Option (Cur)
 |0,_,_,_=>none
 |n+1,x0,x3,x4=>bif(decide (x4<(List.length x0:Int))) then(bif(decide (x4<4000)) then(if(0:Int)≤x4∧x4<(List.length x0) then(xGJ N n x0 (andI .i64 (IntKind.i64.wrap ((IntKind.i64.wrap ((IntKind.i64.wrap (x3*131))+(IntKind.i64.wrap ((List.getD x0 (Int.toNat x4) Ty.byte.dflt)))))+7)) 1073741823) (IntKind.i64.wrap (x4+1))) else none) else(some (Cur.mk x0 0 x3))) else(some (Cur.mk x0 0 x3))
def xIu(N:Nat)(a0:List Int):Option (Cur):=(xGJ N N a0 (IntKind.i64.wrap (26583+(List.length a0:Int))) 0)
def xD7(a0:Cur):List Arg:= [.box (Cu .ro a0)]
def xCt(r:Int × Cur):CallO:=⟨.v false [.int .i64 r.1], [(Cu .ro r.2)], []⟩
def xFZ(N:Nat)(a0:Cur):Option (Int × Cur):=bif(decide ((Cur.i a0)<(List.length (Cur.b a0):Int))) then(if(0:Int)≤(Cur.i a0)∧(Cur.i a0)<(List.length (Cur.b a0)) then some ((andI .i64 (IntKind.i64.wrap ((andI .i64 (xorI .i64 (Int.fdiv (IntKind.i64.wrap ((IntKind.i64.wrap ((Cur.h a0)*6364136223846793005))+1442695040888963407)) ((2:Int) ^ (Int.toNat 33))) (Int.fdiv (IntKind.i64.wrap ((IntKind.i64.wrap ((Cur.h a0)*6364136223846793005))+1442695040888963407)) ((2:Int) ^ (Int.toNat 45)))) 255)+(IntKind.i64.wrap ((List.getD (Cur.b a0) (Int.toNat (Cur.i a0)) Ty.byte.dflt))))) 255),(Cur.mk (Cur.b a0) (IntKind.i64.wrap ((Cur.i a0)+1)) (IntKind.i64.wrap ((IntKind.i64.wrap ((Cur.h a0)*6364136223846793005))+1442695040888963407)))) else none) else(some ((andI .i64 (xorI .i64 (Int.fdiv (IntKind.i64.wrap ((IntKind.i64.wrap ((Cur.h a0)*6364136223846793005))+1442695040888963407)) ((2:Int) ^ (Int.toNat 33))) (Int.fdiv (IntKind.i64.wrap ((IntKind.i64.wrap ((Cur.h a0)*6364136223846793005))+1442695040888963407)) ((2:Int) ^ (Int.toNat 45)))) 255),(Cur.mk (Cur.b a0) (Cur.i a0) (IntKind.i64.wrap ((IntKind.i64.wrap ((Cur.h a0)*6364136223846793005))+1442695040888963407)))))
def xA3(a0:Cur)(a1:Int):List Arg:= [.box (Cu .ro a0), .val (.v false [.int .i64 a1])]
def xAj(r:Int × Cur):CallO:=⟨.v false [.int .i64 r.1], [(Cu .ro r.2)], []⟩
def xBM(N:Nat)(a0:Cur)(a1:Int):Option (Int × Cur):=bif(decide (a1≤0)) then(some (0,a0)) else(bif(decide (a1≤256)) then((xFZ N a0).bind fun r1=>if a1≠(0:Int) then some ((Int.tmod r1.1 a1),r1.2) else none) else((xFZ N a0).bind fun r1=>(xFZ N r1.2).bind fun r2=>(xFZ N r2.2).bind fun r3=>(xFZ N r3.2).bind fun r4=>if a1≠(0:Int) then some ((Int.tmod (IntKind.i64.wrap ((IntKind.i64.wrap ((IntKind.i64.wrap ((IntKind.i64.wrap (r1.1*16777216))+(IntKind.i64.wrap (r2.1*65536))))+(IntKind.i64.wrap (r3.1*256))))+r4.1)) a1),r4.2) else none))
def xA4(a0:Cur)(a1:Int):List Arg:= [.box (Cu .ro a0), .val (.v false [.int .i64 a1])]
def xAs(r:Bool × Cur):CallO:=⟨.v false [.bool r.1], [(Cu .ro r.2)], []⟩
def xC6(N:Nat)(a0:Cur)(a1:Int):Option (Bool × Cur):=(xBM N a0 a1).bind fun r1=>some ((r1.1==0),r1.2)
def xH4(a0:Cur):List Arg:= [.box (Cu .ro a0)]
def xGf(r:(List Org) × Cur):CallO:=⟨.v false [.sl .own .org r.1], [(Cu .ro r.2)], []⟩
def xGe(N:Nat):Nat→(List Org)→Int→Int→Int→Cur→Option ((List Org) × Cur)
 |0,_,_,_,_,_=>none
 |n+1,x3,x4,x5,x6,b0=>bif(decide (x6<x5)) then((xBM N b0 2).bind fun r1=>if List.length x3+List.length [(Org.mk x4 (IntKind.i64.wrap (x6+(IntKind.i64.wrap (r1.1*2)))))]≤Lim then(xBM N r1.2 2).bind fun r2=>(xGe N n (x3++ [(Org.mk x4 (IntKind.i64.wrap (x6+(IntKind.i64.wrap (r1.1*2)))))]) (IntKind.i64.wrap ((IntKind.i64.wrap (x4+1))+r2.1)) x5 (IntKind.i64.wrap (x6+1)) r2.2) else none) else(some (x3,b0))
def xJ9(N:Nat)(a0:Cur):Option ((List Org) × Cur):=(xBM N a0 3).bind fun r1=>(xGe N N [] 1 r1.1 0 r1.2)
def xFB(a0:Cur)(a1:List Int):List Arg:= [.box (Cu .ro a0), .val (.v false [.sl .ro .int a1])]
def xDW(r:Int × Cur):CallO:=⟨.v false [.int .i64 r.1], [(Cu .ro r.2)], []⟩
def xFp(N:Nat)(a0:Cur)(a1:List Int):Option (Int × Cur):=(xBM N a0 (List.length a1:Int)).bind fun r1=>if(0:Int)≤r1.1∧r1.1<(List.length a1) then some ((List.getD a1 (Int.toNat r1.1) Ty.int.dflt),r1.2) else none
def xC3(a0:Cur):List Arg:= [.box (Cu .ro a0)]
def xBD(r:Int × Cur):CallO:=⟨.v false [.int .i64 r.1], [(Cu .ro r.2)], []⟩
def xDY(N:Nat)(a0:Cur):Option (Int × Cur):=(xC6 N a0 12).bind fun r1=>bif r1.1 then((xFp N r1.2 [1000000000,(-1000000000),999999999,500000000,40000]).bind fun r2=>some (r2.1,r2.2)) else((xBM N r1.2 12).bind fun r2=>some ((IntKind.i64.wrap (r2.1 - 3)),r2.2))
def xDX(a0:Cur):List Arg:= [.box (Cu .ro a0)]
def xCj(r:Val × Cur):CallO:=⟨.v true (Va .own r.1), [(Cu .ro r.2)], []⟩
def xC7(N:Nat)(k10:Int→Int→Int→Cur→Val→Val→Option (Val × Cur)):Nat→Int→Int→Int→Int→Cur→Val→Val→Rowd→Option (Val × Cur)
 |0,_,_,_,_,_,_,_,_=>none
 |n+1,x4,x6,x7,x9,b0,b2,b5,b8=>bif(decide (x9<x4)) then((xDY N b0).bind fun r1=>if List.length (Rowd.cells b8)+List.length [r1.1]≤Lim then(xC7 N k10 n x4 x6 x7 (IntKind.i64.wrap (x9+1)) r1.2 b2 b5 (Rowd.mk ((Rowd.cells b8)++ [r1.1]) (Rowd.frm b8))) else none) else(if List.length (Val.rows b5)+List.length [b8]≤Lim then(k10 x4 x6 (IntKind.i64.wrap (x7+1)) b0 b2 (Val.mk (Val.kind b5) (Val.n b5) (Val.step b5) (Val.text b5) (Val.list b5) (Val.columns b5) ((Val.rows b5)++ [b8]))) else none)
def xB9(N:Nat):Nat→Int→Int→Int→Cur→Val→Val→Option (Val × Cur)
 |0,_,_,_,_,_,_=>none
 |n+1,x4,x6,x7,b0,b2,b5=>bif(decide (x7<x6)) then((xJ9 N b0).bind fun r1=>(xC7 N (fun z0 z1 z2 z3 z4 z5=>(xB9 N n z0 z1 z2 z3 z4 z5)) N x4 x6 x7 0 r1.2 b2 b5 (Rowd.mk [] r1.1))) else(some (b5,b0))
def xEt(N:Nat)(a0:Cur):Option (Val × Cur):=(xBM N a0 3).bind fun r1=>if(0:Int)≤(IntKind.i64.wrap (1+r1.1))∧(IntKind.i64.wrap (1+r1.1))≤(List.length ([[97], [98], [99], [120]]:List Str)) then if 0+List.length (List.take (Int.toNat (IntKind.i64.wrap (1+r1.1))) ([[97], [98], [99], [120]]:List Str))≤Lim then(xC6 N r1.2 5).bind fun r2=>bif r2.1 then(if(0:Int)≤0∧(0:Int)<(List.length ([]++(List.take (Int.toNat (IntKind.i64.wrap (1+r1.1))) ([[97], [98], [99], [120]]:List Str)))) then if(0:Int)≤1∧(1:Int)≤(List.length ((fun(z8:List Str)=>List.set z8 (Int.toNat 0) [120]) ([]++(List.take (Int.toNat (IntKind.i64.wrap (1+r1.1))) ([[97], [98], [99], [120]]:List Str))))) then(xBM N r2.2 6).bind fun r3=>(xB9 N N 1 r3.1 0 r3.2 (Val.mk 0 0 0 [] [] [] []) (Val.mk 5 0 0 [] [] (List.take (Int.toNat 1) ((fun(z8:List Str)=>List.set z8 (Int.toNat 0) [120]) ([]++(List.take (Int.toNat (IntKind.i64.wrap (1+r1.1))) ([[97], [98], [99], [120]]:List Str))))) [])) else none else none) else((xBM N r2.2 6).bind fun r3=>(xB9 N N (IntKind.i64.wrap (1+r1.1)) r3.1 0 r3.2 (Val.mk 0 0 0 [] [] [] []) (Val.mk 5 0 0 [] [] ([]++(List.take (Int.toNat (IntKind.i64.wrap (1+r1.1))) ([[97], [98], [99], [120]]:List Str))) []))) else none else none
def xFX(a0:Int):List Arg:= [.val (.v false [.int .i64 a0])]
def xCi(r:Val):CallO:=⟨.v true (Va .own r), [], []⟩
def xCB(N:Nat)(a0:Int):Option (Val):=some (Val.mk 1 a0 0 [] [] [] [])
def xFq(a0:Cur)(a1:List Str):List Arg:= [.box (Cu .ro a0), .val (.v false [.sl .ro .str a1])]
def xDh(r:Str × Cur):CallO:=⟨.v false [.str r.1], [(Cu .ro r.2)], []⟩
def xF2(N:Nat)(a0:Cur)(a1:List Str):Option (Str × Cur):=(xBM N a0 (List.length a1:Int)).bind fun r1=>if(0:Int)≤r1.1∧r1.1<(List.length a1) then some ((List.getD a1 (Int.toNat r1.1) Ty.str.dflt),r1.2) else none
def xGh(a0:Cur):List Arg:= [.box (Cu .ro a0)]
def xD9(r:Str × Cur):CallO:=⟨.v false [.str r.1], [(Cu .ro r.2)], []⟩
def xHe(N:Nat)(a0:Cur):Option (Str × Cur):=(xF2 N a0 [[], [97], [98], [97,98], [104,101,108,108,111], [116,119,101,110,116,121,32,99,104,97,114,97,99,116,101,114,115,32,111,107], [110,105,110,101,116,101,101,110,32,99,104,97,114,97,99,116,101,114,46]]).bind fun r1=>some (r1.1,r1.2)
def xDV(a0:Str):List Arg:= [.val (.v false [.str a0])]
def xCn(r:Val):CallO:=⟨.v true (Va .own r), [], []⟩
def xD6(N:Nat)(a0:Str):Option (Val):=some (Val.mk 2 0 0 a0 [] [] [])
def xDG(a0:Cur)(a1:Int):List Arg:= [.box (Cu .ro a0), .val (.v false [.int .i64 a1])]
def xCv(r:Val × Cur):CallO:=⟨.v true (Va .own r.1), [(Cu .ro r.2)], []⟩
def xDH(N:Nat)(q0:Cur→Int→Option (Val × Cur))(q1:Cur→Int→Option (Val × Cur)):Nat→Int→Int→Int→Cur→Val→Val→Option (Val × Cur)
 |0,_,_,_,_,_,_=>none
 |n+1,x1,x6,x7,b0,b4,b5=>bif(decide (x7<x6)) then((q1 b0 x1).bind fun r1=>if List.length (Val.list b5)+List.length [(Val.re r1.1)]≤Lim then(xDH N q0 q1 n x1 x6 (IntKind.i64.wrap (x7+1)) r1.2 b4 (Val.mk (Val.kind b5) (Val.n b5) (Val.step b5) (Val.text b5) ((Val.list b5)++ [(Val.re r1.1)]) (Val.columns b5) (Val.rows b5))) else none) else(some (b5,b0))
def xEw(N:Nat)(q0:Cur→Int→Option (Val × Cur))(q1:Cur→Int→Option (Val × Cur))(a0:Cur)(a1:Int):Option (Val × Cur):=(xFp N a0 [0,1,2,3,3,4,5,8]).bind fun r1=>(xDH N q0 q1 N a1 r1.1 0 r1.2 (Val.mk 0 0 0 [] [] [] []) (Val.mk 3 0 0 [] [] [] []))
def xCM(a0:Cur)(a1:Int):List Arg:= [.box (Cu .ro a0), .val (.v false [.int .i64 a1])]
def xCw(r:Val × Cur):CallO:=⟨.v true (Va .own r.1), [(Cu .ro r.2)], []⟩
def xEx(N:Nat)(q0:Cur→Int→Option (Val × Cur))(q1:Cur→Int→Option (Val × Cur))(a0:Cur)(a1:Int):Option (Val × Cur):=bif(decide (a1>1)) then((xC6 N a0 4).bind fun r1=>bif r1.1 then((q0 r1.2 (IntKind.i64.wrap (a1 - 1))).bind fun r2=>some (r2.1,r2.2)) else((xC6 N r1.2 4).bind fun r2=>bif r2.1 then((xHe N r2.2).bind fun r3=>(xD6 N r3.1).bind fun r4=>some (r4,r3.2)) else((xDY N r2.2).bind fun r3=>(xCB N r3.1).bind fun r4=>some (r4,r3.2)))) else((xC6 N a0 4).bind fun r1=>bif r1.1 then((xHe N r1.2).bind fun r2=>(xD6 N r2.1).bind fun r3=>some (r3,r2.2)) else((xDY N r1.2).bind fun r2=>(xCB N r2.1).bind fun r3=>some (r3,r2.2)))
structure spec_l3DrawList_rec where
 c_spec_l3DrawList:Cur→Int→Option (Val × Cur)
 c_spec_l3Element2:Cur→Int→Option (Val × Cur)
def xAL(N:Nat):Nat→spec_l3DrawList_rec
 |0=>⟨fun _ _=>none,fun _ _=>none⟩
 |d+1=>⟨xEw N (xAL N d).c_spec_l3DrawList (xAL N d).c_spec_l3Element2,xEx N (xAL N d).c_spec_l3DrawList (xAL N d).c_spec_l3Element2⟩
def xI3(N:Nat)(a0:Cur)(a1:Int):Option (Val × Cur):=(xAL N N).c_spec_l3DrawList a0 a1
def xGL(a0:Cur):List Arg:= [.box (Cu .ro a0)]
def xEH(r:Val × Cur):CallO:=⟨.v true (Va .own r.1), [(Cu .ro r.2)], []⟩
def xDZ(N:Nat):Nat→Int→Int→Cur→Val→Val→Option (Val × Cur)
 |0,_,_,_,_,_=>none
 |n+1,x4,x5,b0,b2,b3=>bif(decide (x5<x4)) then((xDY N b0).bind fun r1=>(xCB N r1.1).bind fun r2=>if List.length (Val.list b3)+List.length [(Val.re r2)]≤Lim then(xDZ N n x4 (IntKind.i64.wrap (x5+1)) r1.2 b2 (Val.mk (Val.kind b3) (Val.n b3) (Val.step b3) (Val.text b3) ((Val.list b3)++ [(Val.re r2)]) (Val.columns b3) (Val.rows b3))) else none) else(some (b3,b0))
def xH5(N:Nat)(a0:Cur):Option (Val × Cur):=(xBM N a0 9).bind fun r1=>(xDZ N N r1.1 0 r1.2 (Val.mk 0 0 0 [] [] [] []) (Val.mk 3 0 0 [] [] [] []))
def xFY(a0:Int)(a1:Int):List Arg:= [.val (.v false [.int .i64 a0]), .val (.v false [.int .i64 a1])]
def xE5(r:Val):CallO:=⟨.v true (Va .own r), [], []⟩
def xIi(N:Nat)(a0:Int)(a1:Int):Option (Val):=some (Val.mk 4 a0 a1 [] [] [] [])
def xCD(a0:Cur):List Arg:= [.box (Cu .ro a0)]
def xBj(r:Val × Cur):CallO:=⟨.v true (Va .own r.1), [(Cu .ro r.2)], []⟩
def xHd(N:Nat)(a0:Cur):Option (Val × Cur):=(xBM N a0 10).bind fun r1=>bif(r1.1==0) then((xDY N r1.2).bind fun r2=>(xCB N r2.1).bind fun r3=>some (r3,r2.2)) else(bif(r1.1==1) then((xDY N r1.2).bind fun r2=>(xCB N r2.1).bind fun r3=>some (r3,r2.2)) else(bif(r1.1==2) then((xDY N r1.2).bind fun r2=>(xCB N r2.1).bind fun r3=>some (r3,r2.2)) else(bif(r1.1==3) then((xHe N r1.2).bind fun r2=>(xD6 N r2.1).bind fun r3=>some (r3,r2.2)) else(bif(r1.1==4) then((xI3 N r1.2 3).bind fun r2=>some (r2.1,r2.2)) else(bif(r1.1==5) then((xH5 N r1.2).bind fun r2=>some (r2.1,r2.2)) else(bif(r1.1==6) then((xDY N r1.2).bind fun r2=>(xDY N r2.2).bind fun r3=>(xIi N r2.1 r3.1).bind fun r4=>some (r4,r3.2)) else(bif(r1.1==7) then((xBM N r1.2 8).bind fun r2=>(xBF N (IntKind.i64.wrap (1+r2.1))).bind fun r3=>some (r3,r2.2)) else((xEt N r1.2).bind fun r2=>some (r2.1,r2.2)))))))))
def xH1(a0:Cur):List Arg:= [.box (Cu .ro a0)]
def xG0(r:Str × Cur):CallO:=⟨.v false [.str r.1], [(Cu .ro r.2)], []⟩
def xLj(N:Nat)(a0:Cur):Option (Str × Cur):=(xF2 N a0 [[97], [98], [99], [100], [120], [121], [116], [117]]).bind fun r1=>some (r1.1,r1.2)
def xHD(a0:Cur):List Arg:= [.box (Cu .ro a0)]
def xGK(r:Str × Cur):CallO:=⟨.v false [.str r.1], [(Cu .ro r.2)], []⟩
def xKI(N:Nat)(a0:Cur):Option (Str × Cur):=(xC6 N a0 2).bind fun r1=>bif r1.1 then((xLj N r1.2).bind fun r2=>some (r2.1,r2.2)) else((xF2 N r1.2 [[], [49,97], [97,49], [97,98,99,100,101,102,103,104], [97,98,99,100,101,102,103,104,105], [108,101,116], [116,97,98,108,101], [115,117,109], [115,117,109,115], [65], [97,95,98], [108,101,110]]).bind fun r2=>some (r2.1,r2.2))
def xCY(a0:Cur):List Arg:= [.box (Cu .ro a0)]
def xCu(r:Val × Cur):CallO:=⟨.v true (Va .own r.1), [(Cu .ro r.2)], []⟩
def xHc(N:Nat)(a0:Cur):Option (Val × Cur):=(xHd N a0).bind fun r1=>(xBM N r1.2 16).bind fun r2=>bif(r2.1==0) then(some ((Val.mk (Val.kind r1.1) (IntKind.i64.wrap ((Val.n r1.1)+1000000000)) (Val.step r1.1) (Val.text r1.1) (Val.list r1.1) (Val.columns r1.1) (Val.rows r1.1)),r2.2)) else(bif(r2.1==1) then(if List.length (Val.text r1.1)+List.length [120,34,121]≤Lim then some ((Val.mk (Val.kind r1.1) (Val.n r1.1) (Val.step r1.1) ((Val.text r1.1)++ [120,34,121]) (Val.list r1.1) (Val.columns r1.1) (Val.rows r1.1)),r2.2) else none) else(bif(r2.1==2) then((xBM N r2.2 8).bind fun r3=>some ((Val.mk r3.1 (Val.n r1.1) (Val.step r1.1) (Val.text r1.1) (Val.list r1.1) (Val.columns r1.1) (Val.rows r1.1)),r3.2)) else(bif(r2.1==3) then((xHd N r2.2).bind fun r3=>if List.length (Val.list r1.1)+List.length [(Val.re r3.1)]≤Lim then some ((Val.mk (Val.kind r1.1) (Val.n r1.1) (Val.step r1.1) (Val.text r1.1) ((Val.list r1.1)++ [(Val.re r3.1)]) (Val.columns r1.1) (Val.rows r1.1)),r3.2) else none) else(bif(r2.1==4) then(if List.length (Val.rows r1.1)+List.length [(Rowd.mk [1] [(Org.mk 2 1),(Org.mk 1 1)])]≤Lim then some ((Val.mk (Val.kind r1.1) (Val.n r1.1) (Val.step r1.1) (Val.text r1.1) (Val.list r1.1) (Val.columns r1.1) ((Val.rows r1.1)++ [(Rowd.mk [1] [(Org.mk 2 1),(Org.mk 1 1)])])),r2.2) else none) else(bif(r2.1==5) then((xKI N r2.2).bind fun r3=>if List.length (Val.columns r1.1)+List.length [r3.1]≤Lim then some ((Val.mk (Val.kind r1.1) (Val.n r1.1) (Val.step r1.1) (Val.text r1.1) (Val.list r1.1) ((Val.columns r1.1)++ [r3.1]) (Val.rows r1.1)),r3.2) else none) else(bif(r2.1==6) then(some ((Val.mk (Val.kind r1.1) (Val.n r1.1) 7 (Val.text r1.1) (Val.list r1.1) (Val.columns r1.1) (Val.rows r1.1)),r2.2)) else(some (r1.1,r2.2))))))))
def xGC(a0:Cur):List Arg:= [.box (Cu .ro a0)]
def xCW(r:Val × Cur):CallO:=⟨.v true (Va .own r.1), [(Cu .ro r.2)], []⟩
def xEh(N:Nat)(k3:Int→Cur→Val→Val→Option (Val × Cur)):Nat→Int→Int→Cur→Val→Val→Option (Val × Cur)
 |0,_,_,_,_,_=>none
 |n+1,x4,x5,b0,b2,b3=>if(0:Int)≤x4∧x4<(List.length (Val.rows b3)) then bif(decide (x5<(List.length (Rowd.cells (List.getD (Val.rows b3) (Int.toNat x4) Ty.row.dflt)):Int))) then((xC6 N b0 8).bind fun r1=>bif(!r1.1) then((xBM N r1.2 4).bind fun r2=>if(0:Int)≤x5∧x5<(List.length (Rowd.cells (List.getD (Val.rows b3) (Int.toNat x4) Ty.row.dflt))) then(xEh N k3 n x4 (IntKind.i64.wrap (x5+1)) r2.2 b2 (Val.mk (Val.kind b3) (Val.n b3) (Val.step b3) (Val.text b3) (Val.list b3) (Val.columns b3) (List.set (Val.rows b3) (Int.toNat x4) (Rowd.mk ((fun(z1:List Int)=>List.set z1 (Int.toNat x5) r2.1) (Rowd.cells (List.getD (Val.rows b3) (Int.toNat x4) Ty.row.dflt))) (Rowd.frm (List.getD (Val.rows b3) (Int.toNat x4) Ty.row.dflt)))))) else none) else((xEh N k3 n x4 (IntKind.i64.wrap (x5+1)) r1.2 b2 b3))) else((k3 (IntKind.i64.wrap (x4+1)) b0 b2 b3)) else none
def xEg(N:Nat):Nat→Int→Cur→Val→Val→Option (Val × Cur)
 |0,_,_,_,_=>none
 |n+1,x4,b0,b2,b3=>bif(decide (x4<(List.length (Val.rows b3):Int))) then((xEh N (fun z0 z1 z2 z3=>(xEg N n z0 z1 z2 z3)) N x4 0 b0 b2 b3)) else((xC6 N b0 12).bind fun r1=>bif r1.1 then((xHc N r1.2).bind fun r2=>some (r2.1,r2.2)) else(some (b3,r1.2)))
def xFJ(N:Nat)(a0:Cur):Option (Val × Cur):=(xEt N a0).bind fun r1=>(xEg N N 0 r1.2 (Val.mk 0 0 0 [] [] [] []) r1.1)
def xGi(a0:Cur):List Arg:= [.box (Cu .ro a0)]
def xEC(r:Val × Cur):CallO:=⟨.v true (Va .own r.1), [(Cu .ro r.2)], []⟩
def xGB(N:Nat)(a0:Cur):Option (Val × Cur):=(xC6 N a0 16).bind fun r1=>bif r1.1 then((xHc N r1.2).bind fun r2=>some (r2.1,r2.2)) else((xF2 N r1.2 [[97], [97], [97], [98], [98], [99], [120], [122], []]).bind fun r2=>(xD6 N r2.1).bind fun r3=>some (r3,r2.2))
def xCK(a0:List Int):List Arg:= [.val (.v false [.sl .ro .byte a0])]
def xBa(r:Val × Val × Val):CallO:=⟨.tup [(true,(Va .own r.1)),(true,(Va .own r.2.1)),(true,(Va .own r.2.2))], [], []⟩
def xDD(N:Nat):Nat→Int→Val→Val→Val→Val→Val→Cur→Option (Val × Val × Val)
 |0,_,_,_,_,_,_,_=>none
 |n+1,x8,b2,b3,b4,b6,b7,b10=>bif(decide (x8<(List.length (Val.columns b7):Int))) then((xC6 N b10 6).bind fun r1=>bif(!r1.1) then(if(0:Int)≤x8∧x8<(List.length [[], [100], [101], [102], [103], [104]]) then if(0:Int)≤x8∧x8<(List.length (Val.columns b7)) then(xDD N n (IntKind.i64.wrap (x8+1)) b2 b3 b4 b6 (Val.mk (Val.kind b7) (Val.n b7) (Val.step b7) (Val.text b7) (Val.list b7) (List.set (Val.columns b7) (Int.toNat x8) (List.getD [[], [100], [101], [102], [103], [104]] (Int.toNat x8) Ty.str.dflt)) (Val.rows b7)) r1.2) else none else none) else((xGB N r1.2).bind fun r2=>some (r2.1,b6,b7))) else((xGB N b10).bind fun r1=>some (r1.1,b6,b7))
def xFA(N:Nat)(a0:List Int):Option (Val × Val × Val):=(xIu N a0).bind fun r1=>(xFJ N r1).bind fun r2=>(xFJ N r2.2).bind fun r3=>(xDD N N 1 (Val.mk 0 0 0 [] [] [] []) (Val.mk 0 0 0 [] [] [] []) (Val.mk 0 0 0 [] [] [] []) r2.1 r3.1 r3.2)
def xGy(a0:List Str)(a1:List Str):List Arg:= [.val (.v false [.sl .ro .str a0]), .val (.v false [.sl .ro .str a1])]
def xDk(r:Bool):CallO:=⟨.v false [.bool r], [], []⟩
def xFE(N:Nat):Nat→(List Str)→(List Str)→Int→Option (Bool)
 |0,_,_,_=>none
 |n+1,x0,x1,x5=>bif(decide (x5<(List.length x0:Int))) then(if(0:Int)≤x5∧x5<(List.length x0) then if(0:Int)≤x5∧x5<(List.length x1) then bif(!(((List.getD x0 (Int.toNat x5) Ty.str.dflt):Str)==(List.getD x1 (Int.toNat x5) Ty.str.dflt))) then(some false) else((xFE N n x0 x1 (IntKind.i64.wrap (x5+1)))) else none else none) else(some true)
def xIe(N:Nat)(a0:List Str)(a1:List Str):Option (Bool):=bif((List.length a0:Int) != (List.length a1:Int)) then(some false) else((xFE N N a0 a1 0))
def xGZ(a0:List Int)(a1:List Int):List Arg:= [.val (.v false [.sl .ro .int a0]), .val (.v false [.sl .ro .int a1])]
def xDg(r:Bool):CallO:=⟨.v false [.bool r], [], []⟩
def xGd(N:Nat):Nat→(List Int)→(List Int)→Int→Option (Bool)
 |0,_,_,_=>none
 |n+1,x0,x1,x5=>bif(decide (x5<(List.length x0:Int))) then(if(0:Int)≤x5∧x5<(List.length x0) then if(0:Int)≤x5∧x5<(List.length x1) then bif((List.getD x0 (Int.toNat x5) Ty.int.dflt) != (List.getD x1 (Int.toNat x5) Ty.int.dflt)) then(some false) else((xGd N n x0 x1 (IntKind.i64.wrap (x5+1)))) else none else none) else(some true)
def xI0(N:Nat)(a0:List Int)(a1:List Int):Option (Bool):=bif((List.length a0:Int) != (List.length a1:Int)) then(some false) else((xGd N N a0 a1 0))
def xEI(a0:List Org)(a1:List Org):List Arg:= [.val (.v false [.sl .ro .org a0]), .val (.v false [.sl .ro .org a1])]
def xCE(r:Bool):CallO:=⟨.v false [.bool r], [], []⟩
def xEJ(N:Nat):Nat→(List Org)→(List Org)→Int→Option (Bool)
 |0,_,_,_=>none
 |n+1,x0,x1,x5=>bif(decide (x5<(List.length x0:Int))) then(if(0:Int)≤x5∧x5<(List.length x0) then if(0:Int)≤x5∧x5<(List.length x1) then bif(!((((Org.cell (List.getD x0 (Int.toNat x5) Ty.org.dflt)):Int)==(Org.cell (List.getD x1 (Int.toNat x5) Ty.org.dflt)))&&(((Org.row (List.getD x0 (Int.toNat x5) Ty.org.dflt)):Int)==(Org.row (List.getD x1 (Int.toNat x5) Ty.org.dflt))))) then(some false) else((xEJ N n x0 x1 (IntKind.i64.wrap (x5+1)))) else none else none) else(some true)
def xG2(N:Nat)(a0:List Org)(a1:List Org):Option (Bool):=bif((List.length a0:Int) != (List.length a1:Int)) then(some false) else((xEJ N N a0 a1 0))
def xCk(a0:Val)(a1:Val)(a2:Bool):List Arg:= [.val (.v true (Va .ro a0)), .val (.v true (Va .ro a1)), .val (.v false [.bool a2])]
def xBf(r:Bool):CallO:=⟨.v false [.bool r], [], []⟩
def xEB(N:Nat)(q0:Val→Val→Bool→Option (Bool)):Nat→Bool→Int→Val→Val→Option (Bool)
 |0,_,_,_,_=>none
 |n+1,x2,x8,b3,b4=>bif(decide (x8<(List.length (Val.rows b3):Int))) then(if(0:Int)≤x8∧x8<(List.length (Val.rows b3)) then if(0:Int)≤x8∧x8<(List.length (Val.rows b4)) then(xI0 N (Rowd.cells (List.getD (Val.rows b3) (Int.toNat x8) Ty.row.dflt)) (Rowd.cells (List.getD (Val.rows b4) (Int.toNat x8) Ty.row.dflt))).bind fun r1=>bif(!r1) then(some false) else(bif x2 then((xG2 N (Rowd.frm (List.getD (Val.rows b3) (Int.toNat x8) Ty.row.dflt)) (Rowd.frm (List.getD (Val.rows b4) (Int.toNat x8) Ty.row.dflt))).bind fun r2=>bif(!r2) then(some false) else((xEB N q0 n x2 (IntKind.i64.wrap (x8+1)) b3 b4))) else((xEB N q0 n x2 (IntKind.i64.wrap (x8+1)) b3 b4))) else none else none) else(some true)
def xGg(N:Nat)(q0:Val→Val→Bool→Option (Bool)):Nat→Bool→Int→Val→Val→Option (Bool)
 |0,_,_,_,_=>none
 |n+1,x2,x7,b3,b4=>bif(decide (x7<(List.length (Val.list b3):Int))) then(if(0:Int)≤x7∧x7<(List.length (Val.list b3)) then if(0:Int)≤x7∧x7<(List.length (Val.list b4)) then(q0 (List.getD (Val.list b3) (Int.toNat x7) Ty.val.dflt) (List.getD (Val.list b4) (Int.toNat x7) Ty.val.dflt) x2).bind fun r1=>bif(!r1) then(some false) else((xGg N q0 n x2 (IntKind.i64.wrap (x7+1)) b3 b4)) else none else none) else((xEB N q0 N x2 0 b3 b4))
def xF9(N:Nat)(q0:Val→Val→Bool→Option (Bool))(a0:Val)(a1:Val)(a2:Bool):Option (Bool):=bif((Val.kind a0) != (Val.kind a1)) then(some false) else(bif((Val.n a0) != (Val.n a1)) then(some false) else(bif((Val.step a0) != (Val.step a1)) then(some false) else(bif(!(((Val.text a0):Str)==(Val.text a1))) then(some false) else(bif((List.length (Val.list a0):Int) != (List.length (Val.list a1):Int)) then(some false) else((xIe N (Val.columns a0) (Val.columns a1)).bind fun r1=>bif(!r1) then(some false) else(bif((List.length (Val.rows a0):Int) != (List.length (Val.rows a1):Int)) then(some false) else((xGg N q0 N a2 0 a0 a1))))))))
def xDj(N:Nat):Nat→Val→Val→Bool→Option (Bool)
 |0,_,_,_=>none
 |d+1,a0,a1,a2=>xF9 N (xDj N d) a0 a1 a2
def xLm(N:Nat)(a0:Val)(a1:Val)(a2:Bool):Option (Bool):=xDj N N a0 a1 a2
def xC9(a0:Val)(a1:Val):List Arg:= [.val (.v true (Va .ro a0)), .val (.v true (Va .ro a1))]
def xBu(r:Bool):CallO:=⟨.v false [.bool r], [], []⟩
def xE1(N:Nat)(a0:Val)(a1:Val):Option (Bool):=(xLm N a0 a1 true).bind fun r1=>some r1
def xHy(a0:List Org):List Arg:= [.val (.v false [.sl .ro .org a0])]
def xFR(r:Val):CallO:=⟨.v true [.int .i64 (Val.kind r), .int .i64 (Val.n r), .int .i64 (Val.step r), .str (Val.text r), .sl .own .val (Val.list r), .sl .own .str (Val.columns r), .sl .tip .row (Val.rows r)], [], []⟩
def xJI(N:Nat)(a0:List Org):Option (Val):=some (Val.mk 0 0 0 [] [] [] [(Rowd.mk [] a0)])
def xFQ(a0:List Org)(a1:List Org):List Arg:= [.val (.v false [.sl .ro .org a0]), .val (.v false [.sl .ro .org a1])]
def xDr(r:Bool):CallO:=⟨.v false [.bool r], [], []⟩
def xDK(N:Nat)(a0:List Org)(a1:List Org):Option (Bool):=(xJI N a0).bind fun r1=>(xJI N a1).bind fun r2=>(xE1 N r1 r2).bind fun r3=>some r3
def xF4(a0:List Int)(a1:List Int):List Arg:= [.val (.v false [.sl .ro .int a0]), .val (.v false [.sl .ro .int a1])]
def xDn(r:Bool):CallO:=⟨.v false [.bool r], [], []⟩
def xFd(N:Nat):Nat→(List Int)→(List Int)→Int→Option (Bool)
 |0,_,_,_=>none
 |n+1,x0,x1,x5=>bif(decide (x5<(List.length x0:Int))) then(if(0:Int)≤x5∧x5<(List.length x0) then if(0:Int)≤x5∧x5<(List.length x1) then bif((List.getD x0 (Int.toNat x5) Ty.int.dflt) != (List.getD x1 (Int.toNat x5) Ty.int.dflt)) then(some false) else((xFd N n x0 x1 (IntKind.i64.wrap (x5+1)))) else none else none) else(some true)
def xFP(N:Nat)(a0:List Int)(a1:List Int):Option (Bool):=bif((List.length a0:Int) != (List.length a1:Int)) then(some false) else((xFd N N a0 a1 0))
def xD4(a0:List Int):List Arg:= [.val (.v false [.sl .ro .byte a0])]
def xCs(r:Bool):CallO:=⟨.v false [.bool r], [], []⟩
def xEV(N:Nat)(k13:Int→Int→Int→Int→Val→Val→Val→Option (Bool)):Nat→Int→Int→Int→Int→Int→Val→Val→Val→Option (Bool)
 |0,_,_,_,_,_,_,_,_=>none
 |n+1,x7,x8,x9,x10,x11,b4,b5,b6=>bif(decide (x11<(List.length (Val.rows b5):Int))) then(if(0:Int)≤x10∧x10<(List.length (Val.rows b4)) then if(0:Int)≤x7∧x7<(List.length (Rowd.cells (List.getD (Val.rows b4) (Int.toNat x10) Ty.row.dflt))) then if(0:Int)≤x11∧x11<(List.length (Val.rows b5)) then if(0:Int)≤x8∧x8<(List.length (Rowd.cells (List.getD (Val.rows b5) (Int.toNat x11) Ty.row.dflt))) then bif(((List.getD (Rowd.cells (List.getD (Val.rows b4) (Int.toNat x10) Ty.row.dflt)) (Int.toNat x7) Ty.int.dflt):Int) != (List.getD (Rowd.cells (List.getD (Val.rows b5) (Int.toNat x11) Ty.row.dflt)) (Int.toNat x8) Ty.int.dflt)) then((xEV N k13 n x7 x8 x9 x10 (IntKind.i64.wrap (x11+1)) b4 b5 b6)) else(bif(decide (x9≥(List.length (Val.rows b6):Int))) then(some false) else(if(0:Int)≤x9∧x9<(List.length (Val.rows b6)) then(xFx N (Rowd.frm (List.getD (Val.rows b4) (Int.toNat x10) Ty.row.dflt)) (Rowd.frm (List.getD (Val.rows b5) (Int.toNat x11) Ty.row.dflt))).bind fun r1=>(xDK N (Rowd.frm (List.getD (Val.rows b6) (Int.toNat x9) Ty.row.dflt)) r1).bind fun r2=>bif(!r2) then(some false) else(if(0:Int)≤(List.length (Val.columns b4):Int)∧(List.length (Val.columns b4):Int)≤(List.length (Rowd.cells (List.getD (Val.rows b6) (Int.toNat x9) Ty.row.dflt))) then(xFP N (List.take (Int.toNat (List.length (Val.columns b4):Int)) (Rowd.cells (List.getD (Val.rows b6) (Int.toNat x9) Ty.row.dflt))) (Rowd.cells (List.getD (Val.rows b4) (Int.toNat x10) Ty.row.dflt))).bind fun r3=>bif(!r3) then(some false) else((xEV N k13 n x7 x8 (IntKind.i64.wrap (x9+1)) x10 (IntKind.i64.wrap (x11+1)) b4 b5 b6)) else none) else none)) else none else none else none else none) else((k13 x7 x8 x9 (IntKind.i64.wrap (x10+1)) b4 b5 b6))
def xDe(N:Nat):Nat→Int→Int→Int→Int→Val→Val→Val→Option (Bool)
 |0,_,_,_,_,_,_,_=>none
 |n+1,x7,x8,x9,x10,b4,b5,b6=>bif(decide (x10<(List.length (Val.rows b4):Int))) then((xEV N (fun z0 z1 z2 z3 z4 z5 z6=>(xDe N n z0 z1 z2 z3 z4 z5 z6)) N x7 x8 x9 x10 0 b4 b5 b6)) else(some (x9==(List.length (Val.rows b6):Int)))
def xII(N:Nat)(a0:List Int):Option (Bool):=(xKG N a0).bind fun r1=>bif r1 then(some true) else((xFA N a0).bind fun r2=>(xGv N r2.1 r2.2.1 r2.2.2).bind fun r3=>bif r3.2 then(if List.isEmpty (Val.list r3.1)=true then if List.isEmpty (Val.columns r3.1)=true then if List.isEmpty (Val.rows r3.1)=true then(xFW N r2.1 r2.2.1 r2.2.2).bind fun r4=>(xE1 N (Val.mk (Val.kind r3.1) (Val.n r3.1) (Val.step r3.1) (Val.text r3.1) [] [] []) r4).bind fun r5=>bif(!r5) then(some false) else(bif((Val.kind r3.1) != 5) then(some ((Val.kind r3.1)==6)) else((xCm N r2.2.1 (Val.text r2.1)).bind fun r6=>(xCm N r2.2.2 (Val.text r2.1)).bind fun r7=>(xDe N N r6 r7 0 0 r2.2.1 r2.2.2 (Val.mk (Val.kind r3.1) (Val.n r3.1) (Val.step r3.1) (Val.text r3.1) [] [] [])))) else none else none else none) else((xFW N r2.1 r2.2.1 r2.2.2).bind fun r4=>(xE1 N r3.1 r4).bind fun r5=>bif(!r5) then(some false) else(bif((Val.kind r3.1) != 5) then(some ((Val.kind r3.1)==6)) else((xCm N r2.2.1 (Val.text r2.1)).bind fun r6=>(xCm N r2.2.2 (Val.text r2.1)).bind fun r7=>(xDe N N r6 r7 0 0 r2.2.1 r2.2.2 r3.1)))))
end Go.Ab
end
section
namespace Go.Ab
open Go.Proofs Go.Shelf
variable {P:Program} {ρ:Ren}
theorem xOD(L:Lays.n125 P ρ):∀args w,(callFunc (ρ.f 125) args).run P w= .ok (.enter (ρ.f 125) args) w:=enters_of L.f125 (by kernel_rfl) rfl
end Go.Ab
end
section
namespace Go.Ab
open Go.Lib Go.Extern Go.Proofs Go.Shelf
variable [Inhabited Lb]
def OrgRow(w:World)(br cap:Nat)(xs:List Org):Prop :=
 xs.length≤cap∧∃cs ty lo hi,w.heap[br]? =some (.cells cs ty (lo,hi))∧cap*2=cs.size∧(∀o,lo≤o→o<hi→cap*2≤o)∧
  ∀m (hm:m<xs.length) k (hk:k<2),cs[m*2+k]? =some ((zAu xs[m])[k]'hk)
theorem OrgRow.rd{E:Env}{br cap:Nat}{xs:List Org}(h:OrgRow E.w br cap xs){pl:Pl}{c:Nat}(ho:E.ow br=some (.arr pl c []))(hw:E.hw br=xs.length*2)(n:Nat)(hh:E.hdr n= .slice (some ⟨br,0,none⟩) xs.length cap) :
 RdP E.w (okF E pl c (.lnt n)) (qF E pl c (.lnt n)) (.slice (some ⟨br,0,none⟩) xs.length cap) (.sl 2 (xs.map Ty.org.toD)):=by
 obtain⟨hcap,cs,ty,lo,hi,t4,t5,t6,hc⟩:=h
 refine .sl br 0 xs.length cap 2 _ (fun m k=>if h:m<xs.length∧k<2 then(zAu xs[m])[k]'h.2 else .bool false) (by simp) hcap (fun r hr=> ?_) ⟨⟨ho,hw,hcap,cs,ty,lo,hi,t4,t5,t6⟩,fun _=>hh.symm⟩ (fun m k hm hk=> ?_) (fun m k hm hk=> ?_)
 ·obtain⟨y,_,rfl⟩:=List.mem_map.1 hr
  exact Ty.toD_length .org y
 ·rw [dif_pos ⟨hm,hk⟩]
  refine⟨?_,?_,ho⟩
  ·simp only [World.cell?,t4]
   rw [Nat.zero_add]
   exact hc m hm k hk
  ·rw [hw];omega
 ·have hm' :m<xs.length:=by simpa using hm
  have hr:(xs.map Ty.org.toD)[m]=Ty.org.toD xs[m]:=by rw [List.getElem_map]
  have hk' :k<2:=by rw [hr] at hk;exact hk
  rw [dif_pos ⟨hm',hk'⟩]
  simp only [hr]
  match k,hk' with
  |0,_=>exact .int .i64 _
  |1,_=>exact .int .i64 _
theorem OrgRow.of{E:Env}{pl:Pl}{c n br cap:Nat}{xs:List Org}(hx:xs≠ [])(h:RdP E.w (okF E pl c (.lnt n)) (qF E pl c (.lnt n)) (.slice (some ⟨br,0,none⟩) xs.length cap) (.sl 2 (xs.map Ty.org.toD))):OrgRow E.w br cap xs:=by
 obtain⟨b,off,cap',e,hcap,hrl,hq,u,hcl,hk⟩:=RdP.cells h (by simpa using hx)
 rw [List.length_map] at e
 obtain⟨rfl,rfl,rfl⟩:br=b∧0=off∧cap=cap' :=by injection e with e1 e2 e3;injection e1 with e1;injection e1 with e1 e4;exact⟨e1,e4,e3⟩
 obtain⟨t1,t2,t3,cs,ty,lo,hi',t4,t5,t6⟩:=hq.1
 rw [List.length_map] at hcap
 refine⟨hcap,cs,ty,lo,hi',t4,t5,t6,fun m hm k hk2=> ?_⟩
 have g1:=(hcl m k (by simpa using hm) hk2).1
 have hr:((xs.map Ty.org.toD)[m]'(by simpa using hm))=Ty.org.toD xs[m]:=by rw [List.getElem_map]
 have g2:=hk m k (by simpa using hm) (by rw [hr];exact hk2)
 rw [Nat.zero_add] at g1
 simp only [World.cell?,t4] at g1
 simp only [hr] at g2
 match k,hk2,g1,g2 with
 |0,_,g1,g2=>generalize u m 0=x at g1 g2;simp only [Ty.toD,List.getElem_cons_zero] at g2;cases g2;exact g1
 |1,_,g1,g2=>generalize u m 1=x at g1 g2;simp only [Ty.toD,List.getElem_cons_succ,List.getElem_cons_zero] at g2;cases g2;exact g1
structure Sorted (w:World) (bo br cap:Nat) (xs ys:List Org) (w' :World):Prop where
 os:w'.os=w.os
 tape:w'.tape=w.tape
 output:w'.output=w.output
 size:w.heap.size≤w'.heap.size
 old:∀b,b<w.heap.size→b≠bo→b≠br→w'.heap[b]? =w.heap[b]?
 box:∃ty,w'.heap[bo]? =some (.cells #[.slice (some ⟨br,0,none⟩) xs.length cap] ty (0,0))
 row:OrgRow w' br cap ys
theorem xNt{P:Program}{ρ:Ren}(L:LaysGg.n6 P ρ)(t e:TypeId)(i ie:TypeInfo)(hi:P.info? t=some i)(hd:i.desc= .slice e)(hpk:P.packed t=false)(hie:P.info? e=some ie)(ke:Nat)
 (hke:∀w,(Extern.Rtype.kind e).run P w= .ok ke w) (hnp:ie.hasPointers=false) (hby:ie.bytes=16) (f lf:Nat) (hf:P.funcs.findIdx? (·.name== "internal/reflectlite" ++ ".Swapper$9")=some f)
 {xs ys:List Org} (hl:ys.length=xs.length) (h2:2≤xs.length) (hlen:xs.length<4611686018427387904)
 (hpdq:AbsCalls P (ρ.f 14) [.val (.v true [.clo lf [gi 4], .swp f 0 (typeHandle P e) (gi 4)]), .val (.v false [.int .i64 0]), .val (.v false [.int .i64 xs.length]), .val (.v false [.int .i64 (Lib.bitLen xs.length)]), .gbox [.sl (.lnt 0) .org xs]] ⟨.tup [], [[.sl (.lnt 0) .org ys]], []⟩)
 {w:World} {bo br cap:Nat} {ty:TypeId} (hbo:w.heap[bo]? =some (.cells #[.slice (some ⟨br,0,none⟩) xs.length cap] ty (0,0))) (hbr:OrgRow w br cap xs) (hne:bo≠br)
 (hbase:∀x ∈ zH7,x.1<w.heap.size∧x.1≠bo∧x.1≠br∧w.heap[x.1]? =some x.2) :
 Calls P (ρ.f 6) #[.iface t (.slice (some ⟨br,0,none⟩) xs.length cap), .func (.func lf) #[] #[.pointer (some ⟨bo,0,none⟩)]] w fun en w' =>en= .returned (.tuple #[])∧Sorted w bo br cap xs ys w' :=by
 have hk9:swapperK xs.length ie ke=9:=by
  unfold swapperK
  have e0:(xs.length==0)=false:=beq_eq_false_iff_ne.2 (by omega)
  have e1:(xs.length==1)=false:=beq_eq_false_iff_ne.2 (by omega)
  simp [e0,e1,hnp,hby]
 have hbol:bo<w.heap.size:=(Array.getElem?_eq_some_iff.1 hbo).1
 have hbrl:br<w.heap.size:=by
  obtain⟨_,cs,ty,lo,hi,h,_⟩:=hbr
  exact(Array.getElem?_eq_some_iff.1 h).1
 refine Any.sort_Slice_of_pdq L t e i ie hi hd hpk hie ke hke (some ⟨br,0,none⟩) xs.length cap hlen f (by rw [hk9];exact hf) (.func lf) #[] #[.pointer (some ⟨bo,0,none⟩)] w (Sorted w bo br cap xs ys) ?_
 generalize hW:sliceWorld P ρ t (some ⟨br,0,none⟩) xs.length cap w=W
 have hWs:W.heap.size=w.heap.size+2:=by rw [←hW];unfold sliceWorld;rw [zBs,zBs]
 have hWo:∀b,b<w.heap.size→W.heap[b]? =w.heap[b]? :=by
  intro b hb
  rw [←hW]
  unfold sliceWorld
  have al:∀(w:World) (o:Obj) (b:Nat),b<w.heap.size→(w.alloc o).heap[b]? =w.heap[b]? :=fun w o b hb=>by
   show(w.heap.push o)[b]? =_
   rw [Array.getElem?_push,if_neg (by omega)]
  rw [al _ _ _ (by rw [zBs];omega),al _ _ _ hb]
 have hWos:W.os=w.os∧W.tape=w.tape∧W.output=w.output:=by rw [←hW];exact⟨rfl,rfl,rfl⟩
 let E:Env:= { w:=W,hw:=fun b=>if b=br then xs.length*2 else if b=bo then 0 else match w.heap[b]? with |some o=>zFu o |none=>0,
               ow:=fun b=>if b=bo then some (.box (gi 4)) else if b=br then some (.arr (.k (2*gi 4+1)) 0 []) else none,bx:=fun _=>bo,hdr:=fun _=> .slice (some ⟨br,0,none⟩) xs.length cap }
 have o1:E.ow bo=some (.box (gi 4)):=if_pos rfl
 have o2:E.ow br=some (.arr (.k (2*gi 4+1)) 0 []):=by show(if br=bo then _ else _)=_;rw [if_neg (Ne.symm hne),if_pos rfl]
 have o3:∀b,b≠bo→b≠br→E.ow b=none:=fun b h1 h2=>by show(if b=bo then _ else _)=_;rw [if_neg h1,if_neg h2]
 have hw2:E.hw br=xs.length*2:=if_pos rfl
 have hE:EnvOk E:=by
  refine⟨fun b hb=> ?_,fun b b' l h1 h2=> ?_,fun b s h=> ?_⟩
  ·have hb:W.heap.size≤b:=hb
   refine⟨o3 b (by omega) (by omega),?_⟩
   show(if b=br then _ else _)=_
   rw [if_neg (by omega),if_neg (by omega),Array.getElem?_eq_none (by omega)]
  ·by_cases c1:b=bo
   ·subst c1
    rw [o1] at h1;cases h1
    by_cases c2:b' =b
    ·exact c2.symm
    ·by_cases c3:b' =br
     ·subst c3;rw [o2] at h2;cases h2
     ·rw [o3 b' c2 c3] at h2;cases h2
   ·by_cases c2:b=br
    ·subst c2
     rw [o2] at h1;cases h1
     by_cases c3:b' =bo
     ·subst c3;rw [o1] at h2;cases h2
     ·by_cases c4:b' =b
      ·exact c4.symm
      ·rw [o3 b' c3 c4] at h2;cases h2
    ·rw [o3 b c1 c2] at h1;cases h1
  ·by_cases c1:b=bo
   ·subst c1
    show(if b=br then _ else _)=_
    rw [if_neg hne,if_pos rfl]
   ·by_cases c2:b=br
    ·subst c2;rw [o2] at h;cases h
    ·rw [o3 b c1 c2] at h;cases h
 have hB:Base E:=by
  intro x hx
  obtain⟨b1,b2,b3,b4⟩:=hbase x hx
  refine⟨by show _<W.heap.size;omega,o3 _ b2 b3,(hWo _ b1).trans b4,?_⟩
  show(if x.1=br then _ else _)=_
  rw [if_neg b3,if_neg b2,b4]
 have hrow:OrgRow E.w br cap xs:=by
  obtain⟨h1,cs,ty',lo,hi',h3,h4⟩:=hbr
  exact⟨h1,cs,ty',lo,hi',(hWo br hbrl).trans h3,h4⟩
 have hsb:sliceBound P e ie ke (some ⟨br,0,none⟩) xs.length cap= #[.slice (some ⟨br,0,none⟩) xs.length cap,typeHandle P e]:=by
  unfold sliceBound
  rw [hk9]
  rfl
 rw [hsb]
 have hA:ArgsAt E 0 [.val (.v true [.clo lf [gi 4], .swp f 0 (typeHandle P e) (gi 4)]), .val (.v false [.int .i64 0]), .val (.v false [.int .i64 xs.length]), .val (.v false [.int .i64 (Lib.bitLen xs.length)]), .gbox [.sl (.lnt 0) .org xs]]
  (#[.agg #[.func (.func lf) #[] #[.pointer (some ⟨bo,0,none⟩)], .func (.func f) #[] #[.slice (some ⟨br,0,none⟩) xs.length cap,typeHandle P e]], .int .i64 0, .int .i64 xs.length, .int .i64 (Lib.bitLen xs.length)]:Array Value).toList:=by
  refine⟨⟨_,rfl,⟨rfl,fun _ _=>trivial⟩,⟨⟨rfl,rfl⟩,fun ad l c he h=>rfl⟩,trivial⟩,⟨rfl,trivial⟩,⟨rfl,trivial⟩,⟨rfl,trivial⟩,⟨o1,_,ty,(hWo bo hbol).trans hbo,?_,trivial⟩,trivial⟩
  exact OrgRow.rd hrow o2 hw2 0 rfl
 have hdo:=hpdq E _ hE hB hA
 have e14:∀args w,(callFunc (ρ.f 14) args).run P w= .ok (.enter (ρ.f 14) args) w:=enters_of L.f14 (by kernel_rfl) rfl
 rcases hdo with ⟨v,w',h1,_⟩ |⟨_,h1⟩
 ·rw [e14] at h1;cases h1
 refine h1.mono fun en w' hen=> ?_
 cases en with
 |returned v =>
  obtain⟨E',rfl,hx⟩:=hen
  have hv:v= .tuple #[]:=by
   obtain⟨vs,rfl,hvs⟩:=(hx.res.vr rfl:VR E' zAI (.h 0) (.tup []) v)
   cases vs with
   |mk l=>cases l with
    |nil=>rfl
    |cons x l=>exact hvs.elim
  subst hv
  obtain⟨⟨b1,vals,ty',b2,b3⟩,_⟩:=(hx.outs:zBr E' (gi 4) bo [.sl (.lnt 0) .org ys]∧True)
  have hhdr:E'.hdr 0= .slice (some ⟨br,0,none⟩) xs.length cap:=by rw [hx.hdr]
  cases vals with
  |mk l =>
   match l,b3 with
   | [hv],b3 =>
     have b4:RdP E'.w (okF E' (.k (2*gi 4+1)) 0 (.lnt 0)) (qF E' (.k (2*gi 4+1)) 0 (.lnt 0)) hv (.sl 2 (ys.map Ty.org.toD)):=b3.1
     have b5:hv=E'.hdr 0:=(RdP.top b4).2 rfl
     rw [hhdr] at b5
     subst b5
     refine⟨rfl,hx.os.trans hWos.1,hx.tape.trans hWos.2.1,hx.output.trans hWos.2.2,by have:=hx.size;show _≤E'.w.heap.size;have h3:W.heap.size≤E'.w.heap.size:=this;omega,fun b hb hb1 hb2=> ?_,⟨ty',b2⟩,?_⟩
     ·exact((hx.old b (by show b<W.heap.size;omega) (o3 b hb1 hb2)).1).trans (hWo b hb)
     ·have:ys≠ []:=by intro e;rw [e] at hl;simp at hl;omega
      rw [←hl] at b4
      exact OrgRow.of this b4
   | [],b3=>exact b3.elim
   |_::_::_,b3=>exact b3.2.elim
 |_=>exact hen.elim
end Go.Ab
end
section
namespace Go.Ab
open Go.Proofs Go.RowKit
structure OrgT (P:Program) (te ti tm tb ts:TypeId):Prop where
 key:P.underlying te=some (.struct #[{ name:= "Cell",type:=ti,offset:=0,embedded:=false,tag:= "",pkgPath:= "",byteOffset:=0 },{ name:= "Row",type:=ti,offset:=1,embedded:=false,tag:= "",pkgPath:= "",byteOffset:=8 }])
 held:P.stoodInHeld te=false
 int:P.underlying ti=some (.int .i64)
 map:P.underlying tm=some (.map te tb)
 zero:∀w,(zeroValue tb).run P w= .ok (.bool false) w
 slice:P.underlying ts=some (.slice te)
def orgV(o:Org):Value:= .agg #[.int .i64 o.cell, .int .i64 o.row]
section
variable {P:Program} {te ti tm tb ts:TypeId} (T:OrgT P te ti tm tb ts) {w:World}
include T
theorem xSF:P.plainKey ti=true:=by simp [Program.plainKey,T.int]
theorem vD0(o:Org):(part ti #[.int .i64 o.cell, .int .i64 o.row] 0).run P w= .ok (.int .i64 o.cell) w:=run_part_plain w (xSF T) rfl
theorem vD1(o:Org):(part ti #[.int .i64 o.cell, .int .i64 o.row] 1).run P w= .ok (.int .i64 o.row) w:=run_part_plain w (xSF T) rfl
theorem xMD(em:Bool)(n:Nat)(k:IntKind)(x:Int):(Instr.checkKey em (n+1) ti (.int k x)).run P w= .ok () w:=by
 unfold Instr.checkKey
 simp [run_underlying T.int]
theorem xKj(em:Bool)(n:Nat)(o:Org):(Instr.checkKey em (n+2) te (orgV o)).run P w= .ok () w:=by
 unfold Instr.checkKey orgV
 simp [run_underlying T.key,vD0 T,vD1 T,xMD T,Result.andThen]
theorem xLJ(a b:Org):(Op.equal te (orgV a) (orgV b)).run P w= .ok (a==b) w:=by
 have hf:P.fieldsOf te= #[{ name:= "Cell",type:=ti,offset:=0,embedded:=false,tag:= "",pkgPath:= "",byteOffset:=0 },{ name:= "Row",type:=ti,offset:=1,embedded:=false,tag:= "",pkgPath:= "",byteOffset:=8 }]:=by unfold Program.fieldsOf;rw [T.key]
 show(Op.equalIn 10000 te (.agg _) (.agg _)).run P w=_
 rw [run_equalIn_agg w 9999 te _ _ (by rw [hf];exact T.key) T.held,hf]
 have e1:=run_equalIn_int (P:=P) w 9998 ti .i64 .i64 a.cell b.cell T.int
 have e2:=run_equalIn_int (P:=P) w 9998 ti .i64 .i64 a.row b.row T.int
 have h:(a==b)=((a.cell==b.cell)&&(a.row==b.row)):=by
  cases a;cases b
  rw [Bool.eq_iff_iff]
  simp
 rw [h]
 simp [Op.eqFields,vD0 T,vD1 T,e1,e2,Result.andThen]
 by_cases h1:a.cell=b.cell <;>by_cases h2:a.row=b.row <;>simp [h1,h2]
end
def SetMap(w:World)(b:Nat)(ks:List Org):Prop :=
 ∃es clock,w.heap[b]? =some (.map es clock)∧es.toList.map (·.key)=ks.map orgV∧∀e ∈ es.toList,e.val= .bool true
theorem SetMap.kept{w w' :World}{b:Nat}{ks:List Org}(h:SetMap w b ks)(e:w'.heap[b]? =w.heap[b]?):SetMap w' b ks:=by
 obtain⟨es,c,h1,h2⟩:=h
 exact⟨es,c,e.trans h1,h2⟩
section
variable {P:Program} {te ti tm tb ts:TypeId} (T:OrgT P te ti tm tb ts) {w:World}
include T
theorem xNI(o:Org):∀(es:List MapEntry) (ks:List Org) (i:Nat),es.map (·.key)=ks.map orgV→(∀e ∈ es,e.val= .bool true)→
 ∃r,(Instr.findAsking te (orgV o) es i).run P w= .ok r w∧(ks.contains o=true→∃j,r=some (j, .bool true))∧(ks.contains o=false→r=none):=by
 intro es
 induction es with
 |nil =>
  intro ks i h _
  have:ks= []:=by simpa using h.symm
  subst this
  exact⟨none,by simp [Instr.findAsking],by simp,fun _=>rfl⟩
 |cons e es ih =>
  intro ks i h hv
  cases ks with
  |nil=>simp at h
  |cons k ks =>
   simp only [List.map_cons,List.cons.injEq] at h
   obtain⟨h1,h2⟩:=h
   obtain⟨r,hr,p1,p2⟩:=ih ks (i+1) h2 (fun x hx=>hv x (List.mem_cons_of_mem _ hx))
   by_cases hk:o=k
   ·subst hk
    refine⟨some (i, .bool true),?_,fun _=>⟨i,rfl⟩,by simp⟩
    unfold Instr.findAsking
    simp [h1,xLJ T,Result.andThen,hv e List.mem_cons_self]
   ·have hb:(o==k)=false:=by simpa using hk
    refine⟨r,?_,fun hc=>p1 ?_,fun hc=>p2 ?_⟩
    ·unfold Instr.findAsking
     simp [h1,xLJ T,Result.andThen,hb,hr]
    ·rw [List.contains_cons,hb,Bool.false_or] at hc;exact hc
    ·rw [List.contains_cons,hb,Bool.false_or] at hc;exact hc
theorem xMY(o:Org)(es:List MapEntry)(ks:List Org)(h:es.map (·.key)=ks.map orgV)(hv:∀e ∈ es,e.val= .bool true) :
 ∃r,(Instr.findKey te (orgV o) es).run P w= .ok r w∧(ks.contains o=true→∃j,r=some (j, .bool true))∧(ks.contains o=false→r=none):=by
 cases es with
 |nil =>
  have:ks= []:=by simpa using h.symm
  subst this
  exact⟨none,by simp [Instr.findKey,run_underlying T.key,Instr.findNow,Result.andThen],by simp,fun _=>rfl⟩
 |cons e es =>
  cases ks with
  |nil=>simp at h
  |cons k ks =>
   obtain⟨r,hr,p⟩:=xNI T (w:=w) o (e::es) (k::ks) 0 h hv
   refine⟨r,?_,p⟩
   have:Instr.findNow (.struct #[{ name:= "Cell",type:=ti,offset:=0,embedded:=false,tag:= "",pkgPath:= "",byteOffset:=0 },{ name:= "Row",type:=ti,offset:=1,embedded:=false,tag:= "",pkgPath:= "",byteOffset:=8 }]) (orgV o) (e::es) 0=none:=by
    simp [Instr.findNow,Instr.sameNow]
   simp [Instr.findKey,run_underlying T.key,this,Result.andThen,hr]
theorem xN7{b:Nat}{ks:List Org}(h:SetMap w b ks)(o:Org):(Instr.lookup tm (.map (some b)) (orgV o) false).run P w= .ok (.bool (ks.contains o)) w:=by
 obtain⟨es,c,h1,h2,h3⟩:=h
 obtain⟨r,hr,p1,p2⟩:=xMY T (w:=w) o es.toList ks h2 h3
 unfold Instr.lookup
 have hg:(getObj b).run P w= .ok (.map es c) w:=by simp [getObj,Sem.run,h1]
 have hck:(Instr.checkKey es.isEmpty 10000 te (orgV o)).run P w= .ok () w:=xKj T es.isEmpty 9998 o
 cases hc:ks.contains o with
 |true =>
  obtain⟨j,rfl⟩:=p1 hc
  simp [run_underlying T.map,hg,hck,hr,Result.andThen]
 |false =>
  obtain rfl:=p2 hc
  simp [run_underlying T.map,hg,hck,hr,T.zero,Result.andThen]
theorem xN8{b:Nat}{ks:List Org}(h:SetMap w b ks)(o:Org)(hc:ks.contains o=false) :
 ∃w',(Instr.mapUpdate tm (.map (some b)) (orgV o) (.bool true)).run P w= .ok () w' ∧SetMap w' b (ks++ [o])∧w.grownBy w' (some b)∧w'.heap.size=w.heap.size:=by
 obtain⟨es,c,h1,h2,h3⟩:=h
 obtain⟨r,hr,p1,p2⟩:=xMY T (w:=w) o es.toList ks h2 h3
 obtain rfl:=p2 hc
 have hb:b<w.heap.size:=(Array.getElem?_eq_some_iff.1 h1).1
 have hg:(getObj b).run P w= .ok (.map es c) w:=by simp [getObj,Sem.run,h1]
 have hck:(Instr.checkKey false 10000 te (orgV o)).run P w= .ok () w:=xKj T false 9998 o
 have hs:∀ob,(setObj b ob).run P w= .ok () { w with heap:=w.heap.setIfInBounds b ob }:=by
  intro ob
  simp [setObj,Sem.run,h1]
 refine⟨{ w with heap:=w.heap.setIfInBounds b (.map (es.push { key:=orgV o,val:= .bool true,born:=c }) (c+1)) },?_,?_,⟨rfl,rfl,rfl,by simp,fun k hk hne=> ?_⟩,by simp⟩
 ·unfold Instr.mapUpdate
  simp [run_underlying T.map,hg,hck,hr,hs,Result.andThen]
 ·refine⟨_,_,by simp [hb];exact⟨rfl,rfl⟩,?_,?_⟩
  ·simp [h2]
  ·intro e he
   simp at he
   rcases he with he |rfl
   ·exact h3 e (by simpa using he)
   ·rfl
 ·have:b≠k:=fun e=>hne (by rw [e])
  simp [Array.getElem?_setIfInBounds,this]
end
section
variable {P:Program} {te ti tm tb ts:TypeId} (w:World) {ops:Array Oper} {rest:List Oper} {o:Oper} {a:Act} {Q:Exit→Act→World→Prop}
theorem xJT(T:OrgT P te ti tm tb ts)(hg:o.guard=none)(m x:Operand)(hop:o.op=Op.lookup tm m x false)(b:Nat)(ks:List Org)(hm:a.eval m= .map (some b))(hs:SetMap w b ks)(c:Org)(hx:a.eval x=orgV c)(bv:Bool)(hbv:ks.contains c=bv)
 (hK:wpList P ops Q rest (a.put o.dst (.bool bv)) w):wpList P ops Q (o::rest) a w:=by
 refine wpList_plain hg fun K' hK' => ?_
 have hrun:=xN7 T hs c
 rw [hbv] at hrun
 unfold Oper.wp
 simp [execOp,hop,hm,hx,hrun,Result.andThen]
 exact hK' _ _ hK
theorem xMi(T:OrgT P te ti tm tb ts)(hg:o.guard=none)(m x v:Operand)(hop:o.op=Op.mapUpdate tm m x v)(b:Nat)(ks:List Org)(hm:a.eval m= .map (some b))(hs:SetMap w b ks)(c:Org)(hx:a.eval x=orgV c)(hv:a.eval v= .bool true)
 (hc:ks.contains c=false) (hK:∀w',SetMap w' b (ks++ [c])→w.grownBy w' (some b)→w'.heap.size=w.heap.size→wpList P ops Q rest (a.put o.dst undef) w'):wpList P ops Q (o::rest) a w:=by
 refine wpList_plain hg fun K' hK' => ?_
 obtain⟨w',hrun,r1,r2,r3⟩:=xN8 T hs c hc
 unfold Oper.wp
 simp [execOp,hop,hm,hx,hv,hrun,Result.andThen]
 exact hK' _ _ (hK w' r1 r2 r3)
end
def orgs(os:List Org):List Value:=os.flatMap zAu
theorem xMJ:∀os:List Org,(orgs os).length=os.length*2
 | []=>rfl
 |o::os=>by
  show(zAu o++orgs os).length=_
  rw [jA,xMJ os]
  simp [zAu];omega
theorem xVj(a b:List Org):orgs (a++b)=orgs a++orgs b:=List.flatMap_append
theorem xNp:∀(os:List Org) (m:Nat) (hm:m<os.length) (k:Nat) (hk:k<2),(orgs os)[m*2+k]? =some ((zAu os[m])[k]'hk)
 | [],m,hm,_,_=>absurd hm (by simp)
 |o::os,0,hm,k,hk=>by
  show(zAu o++orgs os)[0*2+k]? =_
  rw [Nat.zero_mul,Nat.zero_add,List.getElem?_append_left hk]
  exact List.getElem?_eq_getElem hk
 |o::os,m+1,hm,k,hk=>by
  show(zAu o++orgs os)[(m+1)*2+k]? =_
  rw [List.getElem?_append_right (by show 2≤_;omega)]
  have e:(m+1)*2+k - (zAu o).length=m*2+k:=by show(m+1)*2+k - 2=_;omega
  rw [e]
  exact xNp os m (by simpa using hm) k hk
theorem xVk(os:List Org):∀u ∈ orgs os,u.oneCell' =true:=by
 intro u hu
 obtain⟨o,_,hu⟩:=List.mem_flatMap.1 hu
 simp only [zAu,List.mem_cons,List.not_mem_nil,or_false] at hu
 rcases hu with rfl |rfl <;>rfl
def RowIn(w:World)(v:Value)(os:List Org):Prop :=
 ∃p c,v= .slice p os.length c∧(os= []∨∃a:Addr,p=some a∧a.block<w.heap.size∧∀j u,(orgs os)[j]? =some u→w.cell? (a.add j)=some u)
theorem xNr{P:Program}(w:World)(t ty e:TypeId)(i:TypeInfo)(ht:P.underlying t=some (.slice e))(hi:P.info? e=some i)(b:Option Addr)(n cap c:Nat)(h:n≤cap) :
 (Builtin.append_ #[t,t] ty #[.slice b n cap, .slice none 0 c]).run P w= .ok (.slice b n cap) w:=by
 cases b with
 |none=>simp [Builtin.append_,run_underlying ht,sizeOf,typeInfo,hi,Builtin.lenOf,Builtin.firstCells,h,Result.andThen]
 |some ad=>simp [Builtin.append_,run_underlying ht,sizeOf,typeInfo,hi,Builtin.lenOf,Builtin.firstCells,storeCells,h,Result.andThen]
def OwnRow(w:World)(te g cap:Nat)(xs:List Org):Prop :=
 ∃cur,w.heap[g]? =some (.cells cur te (0,0))∧xs.length≤cap∧cap≤maxLen∧cur.size=cap*2∧cur.toList.take (xs.length*2)=orgs xs
theorem OwnRow.kept{w w' :World}{te g cap:Nat}{xs:List Org}(h:OwnRow w te g cap xs)(e:w'.heap[g]? =w.heap[g]?):OwnRow w' te g cap xs:=by
 obtain⟨cur,h1,h2⟩:=h
 exact⟨cur,e.trans h1,h2⟩
theorem OwnRow.lt{w:World}{te g cap:Nat}{xs:List Org}(h:OwnRow w te g cap xs):g<w.heap.size:=by
 obtain⟨cur,h1,h2⟩:=h
 exact(Array.getElem?_eq_some_iff.1 h1).1
theorem OwnRow.cell{w:World}{te g cap:Nat}{xs:List Org}(h:OwnRow w te g cap xs){j:Nat}{u:Value}(hj:(orgs xs)[j]? =some u):w.cell? ⟨g,j,none⟩=some u:=by
 obtain⟨cur,h1,h2,h3,h4,h5⟩:=h
 simp only [World.cell?,h1]
 rw [←h5,List.getElem?_take] at hj
 split at hj
 ·simpa using hj
 ·cases hj
theorem OwnRow.org{w:World}{te g cap:Nat}{xs:List Org}(h:OwnRow w te g cap xs):OrgRow w g cap xs:=by
 have hc:=fun j u=>h.cell (j:=j) (u:=u)
 obtain⟨cur,h1,h2,h3,h4,h5⟩:=h
 refine⟨h2,cur,te,0,0,h1,h4.symm,fun o a b=>by omega,fun m hm k hk=> ?_⟩
 have:=hc _ _ (xNp xs m hm k hk)
 simpa [World.cell?,h1] using this
theorem xP2{P:Program}{te ti tm tb ts:TypeId}(T:OrgT P te ti tm tb ts)(w:World)(ty:Nat)(i:TypeInfo)(hi:P.info? te=some i){z:Value}(hz:i.zero=some z)(hsize:i.size=2)(hby:i.bytes=16)(hzs:z.cells.size=2)
 {g cap:Nat} {xs:List Org} (hown:OwnRow w te g cap xs) {u:Value} {ys:List Org} (hin:RowIn w u ys) (hlen:xs.length+ys.length≤1000000000000) :
 ∃g' cap' w',(Builtin.append_ #[ts,ts] ty #[.slice (some ⟨g,0,none⟩) xs.length cap,u]).run P w= .ok (.slice (some ⟨g',0,none⟩) (xs++ys).length cap') w' ∧OwnRow w' te g' cap' (xs++ys)∧w.grownBy w' (some g)∧(g' =g∨g' =w.heap.size):=by
 obtain⟨p,c,rfl,hp⟩:=hin
 have hown0:w.ownsRow 0 te 2 (.slice (some ⟨g,0,none⟩) xs.length cap) xs.length (orgs xs):=by
  obtain⟨cur,h1,h2,h3,h4,h5⟩:=hown
  exact⟨xMJ xs, .inr ⟨g,cap,cur,rfl,Nat.zero_le _,h1,h2,h3,h4,h5⟩⟩
 have main:∀ad:Addr,(∀j u,(orgs ys)[j]? =some u→w.cell? (ad.add j)=some u)→∃g' cap' w',(Builtin.append_ #[ts,ts] ty #[.slice (some ⟨g,0,none⟩) xs.length cap, .slice (some ad) ys.length c]).run P w= .ok (.slice (some ⟨g',0,none⟩) (xs++ys).length cap') w' ∧
  OwnRow w' te g' cap' (xs++ys)∧w.grownBy w' (some g)∧(g' =g∨g' =w.heap.size):=by
  intro ad had
  obtain⟨v',w',hr,h2,h3,h4,h5⟩:=run_append_own_at (P:=P) w 0 ts ty te i z 2 16 T.slice hi hz hsize hby hzs (by decide) _ xs.length (orgs xs) hown0 ad ys.length c (orgs ys) (xMJ ys) had (xVk ys) (by unfold maxLen;omega) (by omega) (Nat.zero_le _)
  rcases h2.2 with ⟨rfl,_⟩ |⟨g',cap',cur,rfl,_,q1,q2,q3,q4,q5⟩
  ·have:=h4.1 rfl
   exact absurd this.1 (by simp)
  ·refine⟨g',cap',w',by rw [hr,List.length_append],⟨cur,q1,by rw [jA];exact q2,q3,q4,by rw [jA,xVj];exact q5⟩,h3,?_⟩
   simpa [Value.ownBlock] using h5
 rcases hp with hnil |⟨ad,rfl,_,had⟩
 ·subst hnil
  cases p with
  |some ad=>exact main ad (fun j u h=>by simp [orgs] at h)
  |none =>
   have hn:xs.length≤cap:=by obtain⟨cur,h1,h2,_⟩:=hown;exact h2
   refine⟨g,cap,w,?_,by rw [List.append_nil];exact hown,⟨rfl,rfl,rfl,Nat.le_refl _,fun _ _ _=>rfl⟩, .inl rfl⟩
   rw [List.append_nil]
   exact xNr w ts ty te i T.slice hi (some ⟨g,0,none⟩) xs.length cap c hn
 ·exact main ad had
theorem xIl{P:Program}{te ti tm tb ts:TypeId}(w:World){ops:Array Oper}{rest:List Oper}{o:Oper}{a:Act}{Q:Exit→Act→World→Prop}(T:OrgT P te ti tm tb ts)(hg:o.guard=none)(s x:Operand)
 (hop:o.op= .call { callee:= .builtin .append,args:= #[s,x],argTypes:= #[ts,ts] }) (i:TypeInfo) (hi:P.info? te=some i) {z:Value} (hz:i.zero=some z) (hsize:i.size=2) (hby:i.bytes=16) (hzs:z.cells.size=2)
 (g cap:Nat) (xs:List Org) (hs:a.eval s= .slice (some ⟨g,0,none⟩) xs.length cap) (hown:OwnRow w te g cap xs) (u:Value) (hx:a.eval x=u) (ys:List Org) (hin:RowIn w u ys) (hlen:xs.length+ys.length≤1000000000000)
 (hK:∀g' cap' w',OwnRow w' te g' cap' (xs++ys)→w.grownBy w' (some g)→(g' =g∨g' =w.heap.size)→wpList P ops Q rest (a.put o.dst (.slice (some ⟨g',0,none⟩) (xs++ys).length cap')) w') :
 wpList P ops Q (o::rest) a w:=by
 refine wpList_plain hg fun K' hK' => ?_
 obtain⟨g',cap',w',hr,h2,h3,h4⟩:=xP2 (P:=P) T w o.type i hi hz hsize hby hzs hown hin hlen
 unfold Oper.wp execOp
 simp only [hop,resolve,invoke,builtin,Sem.run_bind,Sem.run_pure,Result.andThen_ok,List.map_toArray,List.map_cons,List.map_nil,hs,hx,hr]
 exact hK' _ _ (hK g' cap' w' h2 h3 h4)
theorem RowIn.kept{w w' :World}{v:Value}{os:List Org}(h:RowIn w v os)(hs:w.heap.size≤w'.heap.size)(ho:∀b,b<w.heap.size→w'.heap[b]? =w.heap[b]?):RowIn w' v os:=by
 obtain⟨p,c,rfl,h⟩:=h
 refine⟨p,c,rfl,h.imp id ?_⟩
 rintro ⟨a,rfl,ha,hc⟩
 refine⟨a,rfl,by omega,fun j u hj=> ?_⟩
 rw [←hc j u hj]
 have e:(a.add j).block=a.block:=by unfold Addr.add;split <;>rfl
 simp only [World.cell?,e,ho _ ha]
theorem xIy{w:World}{o:Obj}{b:Nat}(hb:b<w.heap.size):(w.alloc o).heap[b]? =w.heap[b]? :=Below.heap_alloc w o b hb
theorem xHs(w:World)(o:Obj):(w.alloc o).heap.size=w.heap.size+1:=Array.size_push _
theorem RowIn.below{w w' :World}{v:Value}{os:List Org}(h:RowIn w v os)(hb:Below w.heap.size w w'):RowIn w' v os:=h.kept hb.size hb.block
theorem set4(w:World)(o1 o2 o3:Obj)(te:TypeId):OwnRow ((((w.alloc o1).alloc o2).alloc o3).alloc (.cells #[] te)) te (w.heap.size+1+1+1) 0 []:=by
 refine⟨#[],?_,Nat.le_refl _,by decide,rfl,rfl⟩
 have e:w.heap.size+1+1+1=(((w.alloc o1).alloc o2).alloc o3).heap.size:=by rw [xHs,xHs,xHs]
 rw [e]
 show(Array.push _ _)[_]? =_
 rw [Array.getElem?_push,if_pos rfl]
theorem xTv(w:World)(o1 o2 o3 o4:Obj):Below w.heap.size w ((((w.alloc o1).alloc o2).alloc o3).alloc o4) :=
 ((((Below.refl w.heap.size w).alloc (Nat.le_refl _) o1).alloc (by rw [xHs];omega) o2).alloc (by rw [xHs,xHs];omega) o3).alloc (by rw [xHs,xHs,xHs];omega) o4
theorem xSj(os:List Org)(k:Nat)(hk:k<os.length):ded (os.take (k+1))=zIy (ded (os.take k)) os[k]:=by
 unfold ded
 rw [List.take_succ_eq_append_getElem hk,List.foldl_append]
 rfl
theorem xZu(os:List Org):(ded os).length≤os.length:=by
 unfold ded
 have:∀(os acc:List Org),(os.foldl zIy acc).length≤acc.length+os.length:=by
  intro os
  induction os with
  |nil=>intro acc;simp
  |cons o os ih =>
   intro acc
   rw [List.foldl_cons]
   refine Nat.le_trans (ih _) ?_
   unfold zIy
   split <;>simp <;>omega
 simpa using this os []
structure URel (w:World) (te ts B S ga ca:Nat) (all:List Org) (k g cap:Nat) (wr:World):Prop where
 set:SetMap wr B (ded (all.take k))
 box:wr.heap[B+1+1]? =some (.cells #[.slice (some ⟨g,0,none⟩) (ded (all.take k)).length cap] ts (0,0))
 row:OwnRow wr te g cap (ded (all.take k))
 all:OwnRow wr te ga ca all
 below:Below B w wr
 size:S≤wr.heap.size
 hg:g=B+1∨S≤g
 hga:B+3≤ga∧ga<S
theorem URel.cell{w wr:World}{te ts B S ga ca k g cap:Nat}{all:List Org}(h:URel w te ts B S ga ca all k g cap wr):wr.cell? ⟨B+1+1,0,none⟩=some (.slice (some ⟨g,0,none⟩) (ded (all.take k)).length cap):=by
 simp [World.cell?,h.box]
theorem URel.old{w wr:World}{te ts B S ga ca k g cap:Nat}{all:List Org}(h:URel w te ts B S ga ca all k g cap wr)(hk:k<all.length)(hc:(ded (all.take k)).contains all[k]=true)(o:Obj):URel w te ts B S ga ca all (k+1) g cap (wr.alloc o):=by
 have hsz:=h.size
 have hal:∀b,b<wr.heap.size→(wr.alloc o).heap[b]? =wr.heap[b]? :=fun b hb=>xIy (by omega)
 have e:ded (all.take (k+1))=ded (all.take k):=by rw [xSj _ _ hk];unfold zIy;rw [if_pos hc]
 have h1:=h.hga
 refine⟨by rw [e];exact h.set.kept (hal _ (by omega)),by rw [e,hal _ (by omega)];exact h.box,by rw [e];exact h.row.kept (hal _ h.row.lt),h.all.kept (hal _ h.all.lt),h.below.alloc (by omega) _,by rw [xHs];omega,h.hg,h1⟩
theorem xSd{w:World}{b:Nat}{v0 v:Value}{ty:TypeId}(h:w.heap[b]? =some (.cells #[v0] ty (0,0))):(w.setCell ⟨b,0,none⟩ v).heap[b]? =some (.cells #[v] ty (0,0))∧∀k,k≠b→(w.setCell ⟨b,0,none⟩ v).heap[k]? =w.heap[k]? :=by
 refine⟨?_,fun k hk=>Below.heap_setCell w _ v k hk⟩
 have hb:b<w.heap.size:=(Array.getElem?_eq_some_iff.1 h).1
 simp [World.setCell,Array.getElem?_modify,h]
theorem URel.new{w wr w2 w4:World}{te ts B S ga ca k g cap g' cap' :Nat}{all:List Org}(h:URel w te ts B S ga ca all k g cap wr)(hk:k<all.length)(hc:(ded (all.take k)).contains all[k]=false){o1 o3:Obj}
 (s2:SetMap w2 B (ded (all.take k)++ [all[k]])) (g2:(wr.alloc o1).grownBy w2 (some B)) (z2:w2.heap.size=(wr.alloc o1).heap.size)
 (r4:OwnRow w4 te g' cap' (ded (all.take k)++ [all[k]])) (g4:(w2.alloc o3).grownBy w4 (some g)) (hg' :g' =g∨g' =(w2.alloc o3).heap.size) :
 URel w te ts B S ga ca all (k+1) g' cap' (w4.setCell ⟨B+1+1,0,none⟩ (.slice (some ⟨g',0,none⟩) (ded (all.take k)++ [all[k]]).length cap')):=by
 have hsz:=h.size
 have e:ded (all.take (k+1))=ded (all.take k)++ [all[k]]:=by rw [xSj _ _ hk];unfold zIy;rw [if_neg (by rw [hc];simp)]
 have h1:=h.hga
 have h2:=h.hg
 have hgl:=h.row.lt
 have zs1:(wr.alloc o1).heap.size=wr.heap.size+1:=xHs _ _
 have zs3:(w2.alloc o3).heap.size=w2.heap.size+1:=xHs _ _
 have z4:=g4.size
 have q1:∀b,b<wr.heap.size→b≠B→w2.heap[b]? =wr.heap[b]? :=fun b hb hne=>(g2.block b (by omega) (by simp;omega)).trans (xIy (by omega))
 have q4:∀b,b<wr.heap.size→b≠B→b≠g→w4.heap[b]? =wr.heap[b]? :=fun b hb hne hne2=>((g4.block b (by omega) (by simp;omega)).trans (xIy (by omega))).trans (q1 b hb hne)
 have hbx:w4.heap[B+1+1]? =some (.cells #[.slice (some ⟨g,0,none⟩) (ded (all.take k)).length cap] ts (0,0)):=(q4 _ (by omega) (by omega) (by omega)).trans h.box
 obtain⟨b1,b2⟩:=xSd (v:= .slice (some ⟨g',0,none⟩) (ded (all.take k)++ [all[k]]).length cap') hbx
 refine⟨?_,?_,?_,?_,?_,?_,?_,h1⟩
 ·rw [e]
  exact s2.kept ((b2 _ (by omega)).trans ((g4.block B (by omega) (by simp;omega)).trans (xIy (by omega))))
 ·rw [e];exact b1
 ·rw [e];exact r4.kept (b2 _ (by omega))
 ·exact h.all.kept ((b2 _ (by omega)).trans (q4 _ h.all.lt (by omega) (by omega)))
 ·refine Below.setCell ?_ (by show B≤B+1+1;omega) _
  refine Below.grown ?_ g4 (by omega) (fun k hk=>by cases hk;omega)
  refine Below.alloc ?_ (by omega) _
  refine Below.grown ?_ g2 (by omega) (fun k hk=>by cases hk;omega)
  exact h.below.alloc (by omega) _
 ·have:(w4.setCell ⟨B+1+1,0,none⟩ (.slice (some ⟨g',0,none⟩) (ded (all.take k)++ [all[k]]).length cap')).heap.size=w4.heap.size:=by simp [World.setCell]
  omega
 ·omega
theorem URel.start{w w1 w2:World}{te ts g1 g2 c2:Nat}{xs ys:List Org}(r2:OwnRow w2 te g2 c2 ([]++xs++ys))
 (gr1:((((w.alloc (.map #[] 0)).alloc (.cells #[] te)).alloc (.cells #[.slice (some { block:=w.heap.size+1,off:=0 }) 0 0] ts)).alloc (.cells #[] te)).grownBy w1 (some (w.heap.size+1+1+1)))
 (e1:g1=w.heap.size+1+1+1∨g1=((((w.alloc (.map #[] 0)).alloc (.cells #[] te)).alloc (.cells #[.slice (some { block:=w.heap.size+1,off:=0 }) 0 0] ts)).alloc (.cells #[] te)).heap.size)
 (gr2:w1.grownBy w2 (some g1)) (e2:g2=g1∨g2=w1.heap.size):URel w te ts w.heap.size w2.heap.size g2 c2 (xs++ys) 0 (w.heap.size+1) 0 w2:=by
 generalize hA:((w.alloc (.map #[] 0)).alloc (.cells #[] te)).alloc (.cells #[.slice (some { block:=w.heap.size+1,off:=0 }) 0 0] ts)=A at gr1 e1
 have za:A.heap.size=w.heap.size+3:=by rw [←hA,xHs,xHs,xHs]
 have z4:(A.alloc (.cells #[] te)).heap.size=w.heap.size+4:=by rw [xHs,za]
 have s1:=gr1.size
 have s2:=gr2.size
 have a0:A.heap[w.heap.size]? =some (.map #[] 0):=by
  rw [←hA,xIy (by rw [xHs,xHs];omega),xIy (by rw [xHs];omega)]
  show(Array.push _ _)[_]? =_
  rw [Array.getElem?_push,if_pos rfl]
 have a1:A.heap[w.heap.size+1]? =some (.cells #[] te):=by
  rw [←hA,xIy (by rw [xHs,xHs];omega)]
  show(Array.push _ _)[_]? =_
  rw [Array.getElem?_push,if_pos (xHs _ _).symm]
 have a2:A.heap[w.heap.size+1+1]? =some (.cells #[.slice (some { block:=w.heap.size+1,off:=0 }) 0 0] ts):=by
  rw [←hA]
  show(Array.push _ _)[_]? =_
  rw [Array.getElem?_push,if_pos (by rw [xHs,xHs])]
 have keep:∀b,b<w.heap.size+3→w2.heap[b]? =A.heap[b]? :=fun b hb =>
  (gr2.block b (by omega) (by simp;omega)).trans ((gr1.block b (by omega) (by simp;omega)).trans (xIy (by omega)))
 have hd:ded ((xs++ys).take 0)= []:=by simp [ded]
 refine⟨?_,?_,?_,by simpa using r2,?_,Nat.le_refl _, .inl rfl,by omega,?_⟩
 ·rw [hd];exact⟨#[],0,(keep _ (by omega)).trans a0,rfl,by simp⟩
 ·rw [hd];exact(keep _ (by omega)).trans a2
 ·rw [hd];exact⟨#[],(keep _ (by omega)).trans a1,Nat.le_refl _,by decide,rfl,rfl⟩
 ·refine Below.grown (Below.grown ?_ gr1 (by omega) (fun k hk=>by cases hk;omega)) gr2 (by omega) (fun k hk=>by cases hk;omega)
  rw [←hA]
  exact xTv w _ _ _ _
 ·exact r2.lt
theorem URel.mid{w wr w3:World}{te ts B S ga ca k g cap:Nat}{all:List Org}(h:URel w te ts B S ga ca all k g cap wr){a b:Value}(g3:(wr.alloc (.cells #[a,b] te)).grownBy w3 (some B))(z3:w3.heap.size=(wr.alloc (.cells #[a,b] te)).heap.size) :
 w3.cell? ⟨B+1+1,0,none⟩=some (.slice (some ⟨g,0,none⟩) (ded (all.take k)).length cap)∧w3.cell? ⟨wr.heap.size,0,none⟩=some a∧w3.cell? ⟨wr.heap.size,1,none⟩=some b∧∀o,OwnRow (w3.alloc o) te g cap (ded (all.take k)):=by
 have hsz:=h.size
 have h1:=h.hga
 have h2:=h.hg
 have hgl:=h.row.lt
 have zs1:=xHs wr (.cells #[a,b] te)
 have q1:∀b,b<wr.heap.size→b≠B→w3.heap[b]? =wr.heap[b]? :=fun b hb hne=>(g3.block b (by omega) (by simp;omega)).trans (xIy (by omega))
 have qn:w3.heap[wr.heap.size]? =some (.cells #[a,b] te):=by
  rw [g3.block _ (by omega) (by simp;omega)]
  show(Array.push _ _)[_]? =_
  rw [Array.getElem?_push,if_pos rfl]
 refine⟨?_,by simp [World.cell?,qn],by simp [World.cell?,qn],fun o=> ?_⟩
 ·simp only [World.cell?,q1 (B+1+1) (by omega) (by omega),h.box]
  rfl
 ·exact h.row.kept ((xIy (by omega)).trans (q1 g hgl (by omega)))
theorem xUY(w:World)(te:Nat)(c:Org):RowIn (w.alloc (.cells #[.int .i64 c.cell, .int .i64 c.row] te)) (.slice (some ⟨w.heap.size,0,none⟩) 1 1) [c]:=by
 refine⟨_,1,rfl, .inr ⟨_,rfl,by rw [xHs];exact Nat.lt_succ_self _,fun j u hj=> ?_⟩⟩
 have hq:∀i,(w.alloc (.cells #[.int .i64 c.cell, .int .i64 c.row] te)).cell? ⟨w.heap.size,i,none⟩=(#[.int .i64 c.cell, .int .i64 c.row]:Array Value)[i]? :=fun i=>by
  have hq:(w.alloc (.cells #[.int .i64 c.cell, .int .i64 c.row] te)).heap[w.heap.size]? =some (.cells #[.int .i64 c.cell, .int .i64 c.row] te):=by
   show(Array.push _ _)[_]? =_
   rw [Array.getElem?_push,if_pos rfl]
  simp only [World.cell?,hq]
  rfl
 match j,hj with
 |0,hj =>
  simp [orgs,zAu] at hj
  subst hj
  simp only [Addr.add]
  exact hq _
 |1,hj =>
  simp [orgs,zAu] at hj
  subst hj
  simp only [Addr.add]
  exact hq _
 |j+2,hj=>simp [orgs,zAu] at hj
theorem URel.mid4{w wr w3 w4:World}{te ts B S ga ca k g cap:Nat}{all:List Org}(h:URel w te ts B S ga ca all k g cap wr){o1 o3:Obj}(g3:(wr.alloc o1).grownBy w3 (some B))(z3:w3.heap.size=(wr.alloc o1).heap.size)
 (g4:(w3.alloc o3).grownBy w4 (some g)) :
 w4.cell? ⟨B+1+1,0,none⟩=some (.slice (some ⟨g,0,none⟩) (ded (all.take k)).length cap)∧w4.frozen? ⟨B+1+1,0,none⟩=false:=by
 have hsz:=h.size
 have h1:=h.hga
 have h2:=h.hg
 have hgl:=h.row.lt
 have zs1:=xHs wr o1
 have zs3:=xHs w3 o3
 have q:w4.heap[B+1+1]? =wr.heap[B+1+1]? :=
  (g4.block _ (by omega) (by simp;omega)).trans ((xIy (by omega)).trans ((g3.block _ (by omega) (by simp;omega)).trans (xIy (by omega))))
 constructor
 ·simp only [World.cell?,q,h.box]
  rfl
 ·simp [World.frozen?,q,h.box]
end Go.Ab
end
section
namespace Go.Ab
open Go.Lib Go.Extern Go.Proofs Go.Shelf Go.RowKit
variable [Inhabited Lb]
theorem vCz{P:Program}{ρ:Ren}(L:LaysGg.n6 P ρ)(t e:TypeId)(i ie:TypeInfo)(hi:P.info? t=some i)(hd:i.desc= .slice e)(hpk:P.packed t=false)(hie:P.info? e=some ie)(ke:Nat)
 (hke:∀w,(Extern.Rtype.kind e).run P w= .ok ke w) (hnp:ie.hasPointers=false) (hby:ie.bytes=16) (f1 f2 f lf:Nat) (hf1:P.funcs.findIdx? (·.name== "internal/reflectlite" ++ ".Swapper$1")=some f1)
 (hf2:P.funcs.findIdx? (·.name== "internal/reflectlite" ++ ".Swapper$2")=some f2) (hf:P.funcs.findIdx? (·.name== "internal/reflectlite" ++ ".Swapper$9")=some f)
 (hpdq:∀xs:List Org,2≤xs.length→xs.length≤1000000000000→AbsCalls P (ρ.f 14) [.val (.v true [.clo lf [gi 4], .swp f 0 (typeHandle P e) (gi 4)]), .val (.v false [.int .i64 0]), .val (.v false [.int .i64 xs.length]), .val (.v false [.int .i64 (Lib.bitLen xs.length)]), .gbox [.sl (.lnt 0) .org xs]]
   ⟨.tup [], [[.sl (.lnt 0) .org (xs.mergeSort fun x y=> !olt y x)]], []⟩)
 {w:World} {bo br cap:Nat} {ty:TypeId} {xs:List Org} (hlen:xs.length≤1000000000000) (hbo:w.heap[bo]? =some (.cells #[.slice (some ⟨br,0,none⟩) xs.length cap] ty (0,0))) (hbr:OrgRow w br cap xs) (hne:bo≠br)
 (hbase:∀x ∈ zH7,x.1<w.heap.size∧x.1≠bo∧x.1≠br∧w.heap[x.1]? =some x.2) :
 Calls P (ρ.f 6) #[.iface t (.slice (some ⟨br,0,none⟩) xs.length cap), .func (.func lf) #[] #[.pointer (some ⟨bo,0,none⟩)]] w fun en w' =>en= .returned (.tuple #[])∧Sorted w bo br cap xs (xs.mergeSort fun x y=> !olt y x) w' :=by
 by_cases h2:2≤xs.length
 ·exact xNt L t e i ie hi hd hpk hie ke hke hnp hby f lf hf (by simp) h2 (by omega) (hpdq xs h2 hlen) hbo hbr hne hbase
 ·have hn:xs.length≤1:=by omega
  have hms:(xs.mergeSort fun x y=> !olt y x)=xs:=by
   match xs,hn with
   | [],_=>simp
   | [a],_=>simp
  rw [hms]
  have hfi:∃f0,P.funcs.findIdx? (·.name== "internal/reflectlite" ++ ".Swapper$" ++toString (swapperK xs.length ie ke))=some f0:=by
   match h:xs.length,hn with
   |0,_=>exact⟨f1,by rw [show swapperK 0 ie ke=1 from rfl];exact hf1⟩
   |1,_=>exact⟨f2,by rw [show swapperK 1 ie ke=2 from rfl];exact hf2⟩
  obtain⟨f0,hf0⟩:=hfi
  refine(Any.sort_Slice_tiny L t e i ie hi hd hpk hie ke hke (some ⟨br,0,none⟩) xs.length cap hn f0 hf0 (.func lf) #[] #[.pointer (some ⟨bo,0,none⟩)] w).mono ?_
  rintro en w' ⟨rfl,os,rfl⟩
  have hbol:bo<w.heap.size:=(Array.getElem?_eq_some_iff.1 hbo).1
  have hbrl:br<w.heap.size:=by
   obtain⟨_,cs,ty,lo,hi,h,_⟩:=hbr
   exact(Array.getElem?_eq_some_iff.1 h).1
  refine⟨rfl,rfl,rfl,rfl,by rw [Sort.size_grow];omega,fun b hb _ _=>Sort.heap_grow_old _ _ hb,⟨ty,(Sort.heap_grow_old _ _ hbol).trans hbo⟩,?_⟩
  obtain⟨h1,cs,ty',lo,hi',h3,h4⟩:=hbr
  exact⟨h1,cs,ty',lo,hi',(Sort.heap_grow_old _ _ hbrl).trans h3,h4⟩
theorem xZI{w:World}{ok:List (Nat × Nat)→Nat→Nat→Prop}{q:List (Nat × Nat)→Value→Nat→Prop}{x:Org}{y:Value}:∀ {k:Nat} {hk:k<(Ty.org.toD x).length},RdP w ok q y ((Ty.org.toD x)[k])→y=(zAu x)[k]'hk
 |0,_,h=>by simp only [Ty.toD,List.getElem_cons_zero] at h;cases h;rfl
 |1,_,h=>by simp only [Ty.toD,List.getElem_cons_succ,List.getElem_cons_zero] at h;cases h;rfl
 |k+2,hk,_=>absurd hk (by show ¬k+2<2;omega)
theorem xSG{E:Env}{pl:Pl}{c:Nat}{v:Value}{os:List Org}(h:RdP E.w (okF E pl c .ro) (qF E pl c .ro) v (.sl 2 (os.map Ty.org.toD))):RowIn E.w v os:=by
 by_cases hx:os= []
 ·subst hx
  obtain⟨ad,cap,rfl,_⟩:=RdP.shape h
  exact⟨ad,cap,rfl, .inl rfl⟩
 ·obtain⟨b,off,cap,rfl,hcap,hrl,hq,u,hcl,hk⟩:=RdP.cells h (by simpa using hx)
  refine⟨some ⟨b,off,none⟩,cap,by rw [List.length_map], .inr ⟨_,rfl,?_,fun j x hj=> ?_⟩⟩
  ·have hpos:0<(os.map Ty.org.toD).length:=by
    cases os with
    |nil=>exact absurd rfl hx
    |cons _ _=>simp
   have h0:=(hcl 0 0 hpos (by decide)).1
   by_cases hlt:b<E.w.heap.size
   ·exact hlt
   ·simp [World.cell?,Array.getElem?_eq_none (Nat.le_of_not_lt hlt)] at h0
  ·have hj2:j<(orgs os).length:=(List.getElem?_eq_some_iff.1 hj).1
   rw [xMJ] at hj2
   have e:j=j / 2*2+j % 2:=by omega
   have hm:j / 2<os.length:=by omega
   have hk2:j % 2<2:=Nat.mod_lt _ (by decide)
   have h1:=xNp os (j / 2) hm (j % 2) hk2
   rw [←e,hj] at h1
   cases h1
   have g1:=(hcl (j / 2) (j % 2) (by simpa using hm) hk2).1
   have hr:((os.map Ty.org.toD)[j / 2]'(by simpa using hm))=Ty.org.toD os[j / 2]:=by rw [List.getElem_map]
   have g2:=hk (j / 2) (j % 2) (by simpa using hm) (by rw [hr];exact hk2)
   have ha:(⟨b,off,none⟩:Addr).add j=⟨b,off+(j / 2)*2+j % 2,none⟩:=by
    rw [show off+j / 2*2+j % 2=off+j by omega]
    unfold Addr.add
    split
    ·rename_i h0;rw [h0];rfl
    ·rfl
   rw [ha,g1]
   simp only [hr] at g2
   exact congrArg some (xZI g2)
theorem xTN{P:Program}{f:FuncId}(hf:∀args w,(callFunc f args).run P w= .ok (.enter f args) w)
 (hc:∀(xs ys:List Org) (u v:Value) (w:World),RowIn w u xs→RowIn w v ys→xs.length+ys.length≤1000000000000→(∀x ∈ zH7,x.1<w.heap.size∧w.heap[x.1]? =some x.2)→
   Calls P f #[u,v] w fun e w' =>∃br cap,e= .returned (.slice (some ⟨br,0,none⟩) (zJc xs ys).length cap)∧Below w.heap.size w w' ∧w.heap.size≤br∧OrgRow w' br cap (zJc xs ys))
 {xs ys zs:List Org} (h:zJr xs ys=some zs):AbsCalls P f [.val (.v false [.sl .ro .org xs]), .val (.v false [.sl .ro .org ys])] ⟨.v false [.sl .own .org zs], [], []⟩:=by
 unfold zJr at h
 split at h
 case isFalse=>cases h
 rename_i hlen
 cases h
 refine AbsCalls.of_enter hf fun E args hE hB hA=> ?_
 match args,hA with
 |⟨[v1,v2]⟩,hA =>
  obtain⟨⟨hv1,_⟩,⟨hv2,_⟩,_⟩:=hA
  refine(hc xs ys v1 v2 E.w (xSG hv1) (xSG hv2) hlen fun x hx=>⟨(hB x hx).1,(hB x hx).2.2.1⟩).mono ?_
  rintro e w' ⟨br,cap,rfl,hb,hbr,hrow⟩
  generalize zJc xs ys=zs at hrow
  have hbl:br<w'.heap.size:=by
   obtain⟨_,cs,ty,lo,hi,h,_⟩:=hrow
   exact(Array.getElem?_eq_some_iff.1 h).1
  have h0:=hE.new br hbr
  let E' :Env:= { w:=w',hw:=fun b=>if b=br then zs.length*2 else E.hw b,ow:=fun b=>if b=br then some (.arr (.h 0) 0 []) else(E.ow b).bind (fun l=>if l= .arr (.h 0) 0 [] then none else some l),bx:=E.bx,hdr:=fun _=> .slice (some ⟨br,0,none⟩) zs.length cap }
  have hrd:=OrgRow.rd (E:=E') (pl:= .h 0) (c:=0) hrow (if_pos rfl) (if_pos rfl) 0 rfl
  refine⟨_,{ E' with hdr:=E.hdr },rfl,rfl,?_⟩
  refine { os:=hb.os,tape:=hb.tape,output:=hb.output,size:=hb.size,hdr:=rfl,old:=fun b hlt h1=> ?_,env:=⟨fun b hbb=> ?_,fun b b' l g1 g2=> ?_,fun b s h=> ?_⟩,res:= ?_,outs:=trivial,lents:=trivial,bx:=fun _ _=>rfl }
  ·have e:b≠br:=by omega
   exact⟨hb.block b hlt,by simp [E',e],by simp [E',e,h1]⟩
  ·have hbb:w'.heap.size≤b:=hbb
   have e:b≠br:=by omega
   have:=hE.new b (by have:=hb.size;omega)
   exact⟨by simp [E',e,this.1],by simp [E',e,this.2]⟩
  ·simp only [E'] at g1 g2
   split at g1 <;>split at g2
   ·rename_i e1 e2;rw [e1,e2]
   ·cases g1
    simp only [Option.bind_eq_some_iff] at g2
    obtain⟨l2,_,c2⟩:=g2
    split at c2
    ·cases c2
    ·rename_i hne;cases c2;exact absurd rfl hne
   ·cases g2
    simp only [Option.bind_eq_some_iff] at g1
    obtain⟨l2,_,c2⟩:=g1
    split at c2
    ·cases c2
    ·rename_i hne;cases c2;exact absurd rfl hne
   ·simp only [Option.bind_eq_some_iff] at g1 g2
    obtain⟨l1,a1,c1⟩:=g1
    obtain⟨l2,a2,c2⟩:=g2
    split at c1
    ·cases c1
    ·split at c2
     ·cases c2
     ·cases c1;cases c2;exact hE.inj _ _ _ a1 a2
  ·simp only [E'] at h ⊢
   split at h
   ·cases h
   ·rename_i hne
    rw [if_neg hne]
    rw [Option.bind_eq_some_iff] at h
    obtain⟨l,a1,c1⟩:=h
    split at c1
    ·cases c1
    ·cases c1;exact hE.boxhw b s a1
  ·refine ResAt.of ?_ rfl
   refine⟨?_,trivial⟩
   exact RdP.mono hrd (fun p b o ho=>⟨rfl,ho⟩) (fun p v sz ht=>ht.1)
 |⟨[]⟩,hA=>exact hA.elim
 |⟨[_]⟩,hA=>exact hA.2.elim
 |⟨_::_::_::_⟩,hA=>exact hA.2.2.elim
end Go.Ab
end
section
namespace Go.Proofs
open Go.Shelf
def Tryz.lays125_ren:Go.Shelf.Ren:=⟨fun |125=>106 |128=>142 |129=>143 |n=>n,fun |46=>121 |3=>3 |51=>140 |53=>142 |4=>4 |5=>5 |9=>9 |n=>n,fun |n=>n⟩
theorem Tryz.lays125:Go.Proofs.Lays.n125 Tryz.prog Tryz.lays125_ren:= {
 mixed:=by kernel_rfl
 f125:=Tryz.func106.trans (congrArg some (by kernel_rfl))
 f128:=Tryz.func142.trans (congrArg some (by kernel_rfl))
 f129:=Tryz.func143.trans (congrArg some (by kernel_rfl))
 t3:=Tryz.underlying3
 a3:=Tryz.isAgg3
 z3:=Tryz.sizeOf3
 v3:=Tryz.zeroValue3
 t4:=Tryz.underlying4
 a4:=Tryz.isAgg4
 z4:=Tryz.sizeOf4
 v4:=Tryz.zeroValue4
 t5:=Tryz.underlying5
 a5:=Tryz.isAgg5
 z5:=Tryz.sizeOf5
 v5:=Tryz.zeroValue5
 t9:=Tryz.underlying9
 a9:=Tryz.isAgg9
 z9:=Tryz.sizeOf9
 v9:=Tryz.zeroValue9
 t46:=Tryz.underlying121
 a46:=Tryz.isAgg121
 z46:=Tryz.sizeOf121
 v46:=Tryz.zeroValue121
 t51:=Tryz.underlying140
 a51:=Tryz.isAgg140
 z51:=Tryz.sizeOf140
 v51:=Tryz.zeroValue140
 t53:=Tryz.underlying142
 a53:=Tryz.isAgg142
 z53:=Tryz.sizeOf142
 v53:=Tryz.zeroValue142 }
def Tryz.laysGg6_ren:Go.Shelf.Ren:=⟨fun |6=>63 |10=>103 |11=>104 |12=>105 |13=>106 |14=>107 |24=>142 |25=>143 |26=>144 |27=>145 |28=>146 |29=>147 |30=>148 |31=>149 |32=>150 |33=>151 |34=>166 |35=>167 |36=>168 |37=>169 |38=>170 |39=>184 |n=>n,fun |20=>20 |26=>83 |35=>115 |0=>0 |37=>117 |3=>3 |41=>121 |44=>124 |49=>140 |51=>142 |4=>4 |54=>145 |53=>144 |58=>149 |5=>5 |9=>9 |60=>157 |64=>161 |66=>171 |67=>172 |17=>17 |32=>112 |33=>113 |82=>194 |12=>12 |75=>187 |76=>188 |77=>189 |78=>190 |79=>191 |80=>192 |n=>n,fun |n=>n⟩
theorem Tryz.laysGg6:Go.Proofs.LaysGg.n6 Tryz.prog Tryz.laysGg6_ren:= {
 mixed:=by kernel_rfl
 f6:=Tryz.func63.trans (congrArg some (by kernel_rfl))
 f10:=Tryz.func103.trans (congrArg some (by kernel_rfl))
 f11:=Tryz.func104.trans (congrArg some (by kernel_rfl))
 f12:=Tryz.func105.trans (congrArg some (by kernel_rfl))
 f13:=Tryz.func106.trans (congrArg some (by kernel_rfl))
 f14:=Tryz.func107.trans (congrArg some (by kernel_rfl))
 f24:=Tryz.func142.trans (congrArg some (by kernel_rfl))
 f25:=Tryz.func143.trans (congrArg some (by kernel_rfl))
 f26:=Tryz.func144.trans (congrArg some (by kernel_rfl))
 f27:=Tryz.func145.trans (congrArg some (by kernel_rfl))
 f28:=Tryz.func146.trans (congrArg some (by kernel_rfl))
 f29:=Tryz.func147.trans (congrArg some (by kernel_rfl))
 f30:=Tryz.func148.trans (congrArg some (by kernel_rfl))
 f31:=Tryz.func149.trans (congrArg some (by kernel_rfl))
 f32:=Tryz.func150.trans (congrArg some (by kernel_rfl))
 f33:=Tryz.func151.trans (congrArg some (by kernel_rfl))
 f34:=Tryz.func166.trans (congrArg some (by kernel_rfl))
 f35:=Tryz.func167.trans (congrArg some (by kernel_rfl))
 f36:=Tryz.func168.trans (congrArg some (by kernel_rfl))
 f37:=Tryz.func169.trans (congrArg some (by kernel_rfl))
 f38:=Tryz.func170.trans (congrArg some (by kernel_rfl))
 f39:=Tryz.func184.trans (congrArg some (by kernel_rfl))
 t0:=Tryz.underlying0
 a0:=Tryz.isAgg0
 z0:=Tryz.sizeOf0
 v0:=Tryz.zeroValue0
 i0:=by kernel_rfl
 t3:=Tryz.underlying3
 a3:=Tryz.isAgg3
 z3:=Tryz.sizeOf3
 v3:=Tryz.zeroValue3
 i3:=by kernel_rfl
 t4:=Tryz.underlying4
 a4:=Tryz.isAgg4
 z4:=Tryz.sizeOf4
 v4:=Tryz.zeroValue4
 i4:=by kernel_rfl
 t5:=Tryz.underlying5
 a5:=Tryz.isAgg5
 z5:=Tryz.sizeOf5
 v5:=Tryz.zeroValue5
 i5:=by kernel_rfl
 t9:=Tryz.underlying9
 a9:=Tryz.isAgg9
 z9:=Tryz.sizeOf9
 v9:=Tryz.zeroValue9
 i9:=by kernel_rfl
 t12:=Tryz.underlying12
 a12:=Tryz.isAgg12
 z12:=Tryz.sizeOf12
 v12:=Tryz.zeroValue12
 i12:=by kernel_rfl
 t17:=Tryz.underlying17
 a17:=Tryz.isAgg17
 z17:=Tryz.sizeOf17
 v17:=Tryz.zeroValue17
 i17:=by kernel_rfl
 t20:=Tryz.underlying20
 a20:=Tryz.isAgg20
 z20:=Tryz.sizeOf20
 v20:=Tryz.zeroValue20
 i20:=by kernel_rfl
 t26:=Tryz.underlying83
 a26:=Tryz.isAgg83
 z26:=Tryz.sizeOf83
 v26:=Tryz.zeroValue83
 i26:=by kernel_rfl
 t32:=Tryz.underlying112
 a32:=Tryz.isAgg112
 z32:=Tryz.sizeOf112
 v32:=Tryz.zeroValue112
 i32:=by kernel_rfl
 t33:=Tryz.underlying113
 a33:=Tryz.isAgg113
 z33:=Tryz.sizeOf113
 v33:=Tryz.zeroValue113
 i33:=by kernel_rfl
 t35:=Tryz.underlying115
 a35:=Tryz.isAgg115
 z35:=Tryz.sizeOf115
 v35:=Tryz.zeroValue115
 i35:=by kernel_rfl
 t37:=Tryz.underlying117
 a37:=Tryz.isAgg117
 z37:=Tryz.sizeOf117
 v37:=Tryz.zeroValue117
 i37:=by kernel_rfl
 t41:=Tryz.underlying121
 a41:=Tryz.isAgg121
 z41:=Tryz.sizeOf121
 v41:=Tryz.zeroValue121
 i41:=by kernel_rfl
 t44:=Tryz.underlying124
 a44:=Tryz.isAgg124
 z44:=Tryz.sizeOf124
 v44:=Tryz.zeroValue124
 i44:=by kernel_rfl
 t49:=Tryz.underlying140
 a49:=Tryz.isAgg140
 z49:=Tryz.sizeOf140
 v49:=Tryz.zeroValue140
 i49:=by kernel_rfl
 t51:=Tryz.underlying142
 a51:=Tryz.isAgg142
 z51:=Tryz.sizeOf142
 v51:=Tryz.zeroValue142
 i51:=by kernel_rfl
 t53:=Tryz.underlying144
 a53:=Tryz.isAgg144
 z53:=Tryz.sizeOf144
 v53:=Tryz.zeroValue144
 i53:=by kernel_rfl
 t54:=Tryz.underlying145
 a54:=Tryz.isAgg145
 z54:=Tryz.sizeOf145
 v54:=Tryz.zeroValue145
 i54:=by kernel_rfl
 t58:=Tryz.underlying149
 a58:=Tryz.isAgg149
 z58:=Tryz.sizeOf149
 v58:=Tryz.zeroValue149
 i58:=by kernel_rfl
 t60:=Tryz.underlying157
 a60:=Tryz.isAgg157
 z60:=Tryz.sizeOf157
 v60:=Tryz.zeroValue157
 i60:=by kernel_rfl
 t64:=Tryz.underlying161
 a64:=Tryz.isAgg161
 z64:=Tryz.sizeOf161
 v64:=Tryz.zeroValue161
 i64:=by kernel_rfl
 t66:=Tryz.underlying171
 a66:=Tryz.isAgg171
 z66:=Tryz.sizeOf171
 v66:=Tryz.zeroValue171
 i66:=by kernel_rfl
 t67:=Tryz.underlying172
 a67:=Tryz.isAgg172
 z67:=Tryz.sizeOf172
 v67:=Tryz.zeroValue172
 i67:=by kernel_rfl
 t75:=Tryz.underlying187
 a75:=Tryz.isAgg187
 z75:=Tryz.sizeOf187
 v75:=Tryz.zeroValue187
 i75:=by kernel_rfl
 t76:=Tryz.underlying188
 a76:=Tryz.isAgg188
 z76:=Tryz.sizeOf188
 v76:=Tryz.zeroValue188
 i76:=by kernel_rfl
 t77:=Tryz.underlying189
 a77:=Tryz.isAgg189
 z77:=Tryz.sizeOf189
 v77:=Tryz.zeroValue189
 i77:=by kernel_rfl
 t78:=Tryz.underlying190
 a78:=Tryz.isAgg190
 z78:=Tryz.sizeOf190
 v78:=Tryz.zeroValue190
 i78:=by kernel_rfl
 t79:=Tryz.underlying191
 a79:=Tryz.isAgg191
 z79:=Tryz.sizeOf191
 v79:=Tryz.zeroValue191
 i79:=by kernel_rfl
 t80:=Tryz.underlying192
 a80:=Tryz.isAgg192
 z80:=Tryz.sizeOf192
 v80:=Tryz.zeroValue192
 i80:=by kernel_rfl
 t82:=Tryz.underlying194
 a82:=Tryz.isAgg194
 z82:=Tryz.sizeOf194
 v82:=Tryz.zeroValue194
 i82:=by kernel_rfl }
end Go.Proofs
end
section
open Go.Proofs
namespace Go.Ab.T
variable [Inhabited Lb]
abbrev AbC(f:FuncId)(a:List Arg)(r:CallO):Prop:=AbsCalls Tryz.prog f a r
abbrev W(x:Int):Int:=IntKind.i64.wrap x
abbrev Ln{α:Type}(l:List α):Nat:=List.length l
abbrev tN(x:Int):Nat:=Int.toNat x
abbrev gD{α:Type}(l:List α)(i:Nat)(d:α):α:=List.getD l i d
abbrev iY(b:Bool):Prop:=b=true
abbrev iN(b:Bool):Prop:=b=false
abbrev dc(p:Prop) [Decidable p]:Bool:=decide p
abbrev vd:Val:=Ty.val.dflt
abbrev rd:Rowd:=Ty.row.dflt
end Go.Ab.T
end
section
open Go.Proofs
namespace Go.Ab.T
set_option maxRecDepth 100000
variable [Inhabited Lb]
def tt:TT:= [(3,{ zero:=some [.int .i64 0],ik:=some .i64 }),
 (4,{ zero:=some [.bool false],isBool:=true }),
 (5,{ zero:=some [.int .u8 0],ik:=some .u8 }),
 (9,{ zero:=some [.str []],isStr:=true }),
 (22,{ zero:=some [.sl .own .val []],elem:=some (26, .val) }),
 (23,{ zero:=some [.sl .own .str []],elem:=some (9, .str) }),
 (24,{ zero:=some [.sl .own .row []],elem:=some (99, .row) }),
 (26,{ sz:=7,agg:=true,zero:=some [.int .i64 0, .int .i64 0, .int .i64 0, .str [], .sl .own .val [], .sl .own .str [], .sl .own .row []],offs:= [0,1,2,3,4,5,6],fsz:= [1,1,1,1,1,1,1] }),
 (28,{ zero:=some [.sl .own .val []],elem:=some (31, .val) }),
 (29,{ zero:=some [.sl .own .row []],elem:=some (45, .row) }),
 (31,{ sz:=7,agg:=true,zero:=some [.int .i64 0, .int .i64 0, .int .i64 0, .str [], .sl .own .val [], .sl .own .str [], .sl .own .row []],offs:= [0,1,2,3,4,5,6],fsz:= [1,1,1,1,1,1,1] }),
 (37,{ zero:=some [.sl .own .byte []],elem:=some (5, .byte) }),
 (42,{ zero:=some [.sl .own .int []],elem:=some (3, .int) }),
 (43,{ zero:=some [.sl .own .org []],elem:=some (80, .org) }),
 (45,{ sz:=2,agg:=true,zero:=some [.sl .own .int [], .sl .own .org []],offs:= [0,1],fsz:= [1,1] }),
 (80,{ sz:=2,agg:=true,zero:=some [.int .i64 0, .int .i64 0],offs:= [0,1],fsz:= [1,1],same:=true }),
 (83,{ zero:=some [.val .nilFunc],isFn:=true }),
 (97,{ zero:=some [.sl .own .org []],elem:=some (155, .org) }),
 (99,{ sz:=2,agg:=true,zero:=some [.sl .own .int [], .sl .own .org []],offs:= [0,1],fsz:= [1,1] }),
 (109,{ sz:=3,agg:=true,zero:=some [.sl .own .byte [], .int .i64 0, .int .i64 0],offs:= [0,1,2],fsz:= [1,1,1] }),
 (117,{ zero:=some [.val .nilFunc],isFn:=true }),
 (121,{ zero:=some [.int .u64 0],ik:=some .u64 }),
 (124,{ sz:=2,agg:=true,zero:=some [.val .nilFunc, .val .nilFunc],offs:= [0,1],fsz:= [1,1] }),
 (142,{ zero:=some [.int .u64 0],ik:=some .u64 }),
 (144,{ zero:=some [.int .i64 0],ik:=some .i64 }),
 (155,{ sz:=2,agg:=true,zero:=some [.int .i64 0, .int .i64 0],offs:= [0,1],fsz:= [1,1],same:=true }),
 (157,{ zero:=some [.int .u64 0],ik:=some .u64 })]
theorem ttok:TTok Tryz.prog tt:=zJj (by kernel_rfl)
theorem mix:Tryz.prog.follows .mixedOrders=true:=by kernel_rfl
def F:Bool:=false
def cl(r:CallO):CallO:=⟨r.res,r.outs, [.clo 0 []]⟩
def Y:Bool:=true
noncomputable def rE (I:Info) (ag:List Arg) (bs:List Bool) (cs:List CallO):Option Res:=run tt (AbsCalls Tryz.prog) I 3000 false [.code I.body] ⟨zA9 0 ag,bs,cs, []⟩
noncomputable def rS (k:Nat) (I:Info) (σ:St) (bs:List Bool) (cs:List CallO):Option Res:=run tt (AbsCalls Tryz.prog) I 3000 true (stkAt k I.body) ⟨σ,bs,cs, []⟩
noncomputable def dn (r:CallO) (ob:List Prop):Option Res:=some (.done r ob)
noncomputable def st (k:Nat) (I:Info) (σ:St) (ob:List Prop):Option Res:=some (.stop (stkAt k I.body) σ ob)
def RE(fn:Func)(I:Info)(ag:List Arg)(r:CallO):Prop:=Reach Tryz.prog fn I [.code I.body] (zA9 0 ag) r
def RS(fn:Func)(I:Info)(k:Nat)(σ:St)(r:CallO):Prop:=Reach Tryz.prog fn I (stkAt k I.body) σ r
section
variable {ρ:Type} {f:FuncId} {fn:Func} {I:Info} {ag:List Arg} {bs:List Bool} {cs:List CallO} {k j:Nat} {σ σ' :St} {ob:List Prop} {ro:ρ→CallO} {x r:ρ} {q:CallO}
theorem dE(e:some x=some r)(hf:FnOk Tryz.prog f fn I)(h:rE I ag bs cs=dn (ro x) ob)(o:∀p ∈ ob,p):RE fn I ag (ro r):=by
 cases e;exact Reach.done ttok mix hf h o
theorem dS(e:some x=some r)(hf:FnOk Tryz.prog f fn I)(h:rS k I σ bs cs=dn (ro x) ob)(o:∀p ∈ ob,p):RS fn I k σ (ro r):=by
 cases e;exact Reach.done ttok mix hf h o
theorem tE(hf:FnOk Tryz.prog f fn I)(h:rE I ag bs cs=st k I σ ob)(o:∀p ∈ ob,p)(t:RS fn I k σ q):RE fn I ag q:=Reach.stop ttok mix hf h o t
theorem tS(hf:FnOk Tryz.prog f fn I)(h:rS j I σ' bs cs=st k I σ ob)(o:∀p ∈ ob,p)(t:RS fn I k σ q):RS fn I j σ' q:=Reach.stop ttok mix hf h o t
end
theorem oc{p:Prop}{l:List Prop}(h:p)(t:∀q ∈ l,q):∀q ∈ p::l,q:=zJi h t
theorem on:∀q ∈ ([]:List Prop),q:=zJm
theorem oc2{p0 p1:Prop}{l:List Prop}(h0:p0)(h1:p1)(t:∀q ∈ l,q):∀q ∈ p0::p1::l,q:=oc h0 (oc h1 t)
theorem oc3{p0 p1 p2:Prop}{l:List Prop}(h0:p0)(h1:p1)(h2:p2)(t:∀q ∈ l,q):∀q ∈ p0::p1::p2::l,q:=oc h0 (oc2 h1 h2 t)
theorem oc4{p0 p1 p2 p3:Prop}{l:List Prop}(h0:p0)(h1:p1)(h2:p2)(h3:p3)(t:∀q ∈ l,q):∀q ∈ p0::p1::p2::p3::l,q:=oc h0 (oc3 h1 h2 h3 t)
theorem oc5{p0 p1 p2 p3 p4:Prop}{l:List Prop}(h0:p0)(h1:p1)(h2:p2)(h3:p3)(h4:p4)(t:∀q ∈ l,q):∀q ∈ p0::p1::p2::p3::p4::l,q:=oc h0 (oc4 h1 h2 h3 h4 t)
theorem oc6{p0 p1 p2 p3 p4 p5:Prop}{l:List Prop}(h0:p0)(h1:p1)(h2:p2)(h3:p3)(h4:p4)(h5:p5)(t:∀q ∈ l,q):∀q ∈ p0::p1::p2::p3::p4::p5::l,q:=oc h0 (oc5 h1 h2 h3 h4 h5 t)
theorem oc7{p0 p1 p2 p3 p4 p5 p6:Prop}{l:List Prop}(h0:p0)(h1:p1)(h2:p2)(h3:p3)(h4:p4)(h5:p5)(h6:p6)(t:∀q ∈ l,q):∀q ∈ p0::p1::p2::p3::p4::p5::p6::l,q:=oc h0 (oc6 h1 h2 h3 h4 h5 h6 t)
theorem oc8{p0 p1 p2 p3 p4 p5 p6 p7:Prop}{l:List Prop}(h0:p0)(h1:p1)(h2:p2)(h3:p3)(h4:p4)(h5:p5)(h6:p6)(h7:p7)(t:∀q ∈ l,q):∀q ∈ p0::p1::p2::p3::p4::p5::p6::p7::l,q:=oc h0 (oc7 h1 h2 h3 h4 h5 h6 h7 t)
theorem oc9{p0 p1 p2 p3 p4 p5 p6 p7 p8:Prop}{l:List Prop}(h0:p0)(h1:p1)(h2:p2)(h3:p3)(h4:p4)(h5:p5)(h6:p6)(h7:p7)(h8:p8)(t:∀q ∈ l,q):∀q ∈ p0::p1::p2::p3::p4::p5::p6::p7::p8::l,q:=oc h0 (oc8 h1 h2 h3 h4 h5 h6 h7 h8 t)
theorem oc10{p0 p1 p2 p3 p4 p5 p6 p7 p8 p9:Prop}{l:List Prop}(h0:p0)(h1:p1)(h2:p2)(h3:p3)(h4:p4)(h5:p5)(h6:p6)(h7:p7)(h8:p8)(h9:p9)(t:∀q ∈ l,q):∀q ∈ p0::p1::p2::p3::p4::p5::p6::p7::p8::p9::l,q:=oc h0 (oc9 h1 h2 h3 h4 h5 h6 h7 h8 h9 t)
theorem oc11{p0 p1 p2 p3 p4 p5 p6 p7 p8 p9 p10:Prop}{l:List Prop}(h0:p0)(h1:p1)(h2:p2)(h3:p3)(h4:p4)(h5:p5)(h6:p6)(h7:p7)(h8:p8)(h9:p9)(h10:p10)(t:∀q ∈ l,q):∀q ∈ p0::p1::p2::p3::p4::p5::p6::p7::p8::p9::p10::l,q:=oc h0 (oc10 h1 h2 h3 h4 h5 h6 h7 h8 h9 h10 t)
theorem oc12{p0 p1 p2 p3 p4 p5 p6 p7 p8 p9 p10 p11:Prop}{l:List Prop}(h0:p0)(h1:p1)(h2:p2)(h3:p3)(h4:p4)(h5:p5)(h6:p6)(h7:p7)(h8:p8)(h9:p9)(h10:p10)(h11:p11)(t:∀q ∈ l,q):∀q ∈ p0::p1::p2::p3::p4::p5::p6::p7::p8::p9::p10::p11::l,q:=oc h0 (oc11 h1 h2 h3 h4 h5 h6 h7 h8 h9 h10 h11 t)
theorem cE{α:Type}{C:Prop}{b:Bool}{x y:Option α}{r:α}(h:cond b x y=some r)(f:b=true→x=some r→C)(g:b=false→y=some r→C):C:=(zJg h).elim (fun h=>f h.1 h.2) fun h=>g h.1 h.2
theorem bE{α β:Type}{C:Prop}{o:Option α}{f:α→Option β}{r:β}(h:Option.bind o f=some r)(g:∀a,o=some a→f a=some r→C):C:=(zJe h).elim fun a h=>g a h.1 h.2
theorem iE{α:Type}{C p:Prop} [Decidable p]{x:Option α}{r:α}(h:(if p then x else none)=some r)(g:p→x=some r→C):C:=(zJk h).elim g
theorem nE{α:Type}{C:Prop}{r:α}(h:none=some r):C:=nomatch h
noncomputable def I168:Info:= { body:=(Tryz.f168.body).getD .skip,nt:=33,results:= [.tmp 2],keep:= [0,4,1],live:= [],modes:= [],ext:= [0] }
theorem vDM:FnOk Tryz.prog 168 Tryz.f168 I168:=⟨Tryz.func168,by kernel_rfl,by kernel_rfl,by kernel_rfl,by kernel_rfl⟩
abbrev xT1(v0:Int):=xorI .u64 (xorI .u64 (xorI .u64 v0 (IntKind.u64.wrap (v0*2 ^ (tN 13)))) (Int.fdiv (xorI .u64 v0 (IntKind.u64.wrap (v0*2 ^ (tN 13)))) ((2:Int) ^ (tN 7)))) (IntKind.u64.wrap ((xorI .u64 (xorI .u64 v0 (IntKind.u64.wrap (v0*2 ^ (tN 13)))) (Int.fdiv (xorI .u64 v0 (IntKind.u64.wrap (v0*2 ^ (tN 13)))) ((2:Int) ^ (tN 7))))*2 ^ (tN 17)))
def xXh(a0:Int):rE I168 (xEc a0) [] []=dn (xCS ((xT1 a0),(xT1 a0))) [(0:Int)≤13∧(13:Int)<64,(0:Int)≤7∧(7:Int)<64,(0:Int)≤17∧(17:Int)<64]:=by kernel_rfl
theorem vDr{N:Nat}:∀a0 r,xFk N a0=some r→RE Tryz.f168 I168 (xEc a0) (xCS r):=fun a0 r h =>
 dE h vDM (xXh a0) (oc3 (by decide) (by decide) (by decide) on)
theorem xIc{N:Nat}{a0:Int}{r:Int × Int}(h:xFk N  a0=some r):AbC 168 (xEc a0) (xCS r) :=
 AbsCalls.of_reach vDM rfl rfl rfl (Nat.le_of_ble_eq_true rfl) (vDr a0 r h)
theorem xMC{N:Nat}{a0 r:Int}(h:xJ0 N a0=some r):AbC 106 (xKf a0) (xIh r) :=
 zII (xOD Tryz.lays125) (Any.bits_Len Tryz.lays125) h
noncomputable def I167:Info:= { body:=(Tryz.f167.body).getD .skip,nt:=10,results:= [.tmp 2],keep:= [0,4,6],live:= [],modes:= [(2, [(0, .take,false)])] }
theorem vDL:FnOk Tryz.prog 167 Tryz.f167 I167:=⟨Tryz.func167,by kernel_rfl,by kernel_rfl,by kernel_rfl,by kernel_rfl⟩
def xXg(a0 r1:Int):rE I167 (xE8 a0) [] [xIh r1]=dn (xDP (IntKind.u64.wrap (1*2 ^ (tN (IntKind.u64.wrap (r1)))))) [AbC 106 (xKf (IntKind.u64.wrap (a0))) (xIh r1),(0:Int)≤(IntKind.u64.wrap (r1))∧(IntKind.u64.wrap (r1))<64]:=by kernel_rfl
theorem vDq{N:Nat}:∀a0 r,xEY N a0=some r→RE Tryz.f167 I167 (xE8 a0) (xDP r):=fun a0 r h =>
 bE h fun r1 h0 h=>iE h fun h1 h=>dE h vDL (xXg a0 r1) (oc2 (xMC h0) h1 on)
theorem xKm{N:Nat}{a0:Int}{r:Int}(h:xEY N  a0=some r):AbC 167 (xE8 a0) (xDP r) :=
 AbsCalls.of_reach vDL rfl rfl rfl (Nat.le_of_ble_eq_true rfl) (vDq a0 r h)
theorem xAg{N:Nat}{a0 a1:Int}{a2 r:List Org}(h:xAf N a0 a1 a2=some r):AbC 141 (xAn a0 a1 a2) (xAa r) :=
 zJh (run_callFunc_extern Tryz.func141 (by kernel_rfl) (by kernel_rfl) (by kernel_rfl) (by kernel_rfl)) 80 _ (Option.some_get (by kernel_rfl:(Tryz.prog.info? 80).isSome=true)).symm (by kernel_rfl) Tryz.isAgg80 h
noncomputable def xJa:Info:= { body:=(Tryz.f148.body).getD .skip,nt:=23,results:= [],keep:= [0,2,4,6,12,14,26,2000006,7,2000007],live:= [(3, [6,12,14,2000006,7,2000007])],modes:= [],ext:= [1000003] }
theorem xLs:FnOk Tryz.prog 148 Tryz.f148 xJa:=⟨Tryz.func148,by kernel_rfl,by kernel_rfl,by kernel_rfl,by kernel_rfl⟩
def xJB(x6 x7:Int)(b1000003:List Org):St:= [(6, .v false [.ptr 3 0]),(12, .v false [.int .i64 x6]),(14, .v false [.int .i64 x7]),(7, .v true [.clo 64 [1000003], .swp 141 0 (.pointer (some ⟨0,80,none⟩)) 1000003]),(2000007, .v true [.sl (.lnt 0) .org b1000003])]
abbrev xFi(v0 v1:Int):Prop:=iY (dc (v0<v1))
abbrev xQs(v0 v1:Int)(v2:List Org)(v3:(List Org)):Prop:=AbC 141 (xAn v0 v1 v2) (xAa v3)
def xQY(x6 x7:Int)(b1000003:List Org)(r1:(List Org)):rS 3 xJa (xJB x6 x7 b1000003) [Y] [xAa r1]=st 3 xJa (xJB (W (x6+1)) (W (x7 - 1)) r1) [xFi x6 x7,xQs x6 x7 b1000003 r1,2≤Ln b1000003,Ln r1=Ln b1000003]:=by kernel_rfl
abbrev xHn(v0 v1:Int):Prop:=iN (dc (v0<v1))
def xQZ(x6 x7:Int)(b1000003:List Org):rS 3 xJa (xJB x6 x7 b1000003) [F] []=dn (xBc b1000003) [xHn x6 x7]:=by kernel_rfl
def xQ0(a0 a1:Int)(a2:List Org):rE xJa (xB7 a0 a1 a2) [] []=st 3 xJa (xJB a0 (W (a1 - 1)) a2) []:=by kernel_rfl
theorem xS6{N:Nat}:∀n x6 x7 b1000003 r,xBb N n x6 x7 b1000003=some r→RS Tryz.f148 xJa 3 (xJB x6 x7 b1000003) (xBc r):=by
 intro n
 induction n with
 |zero=>exact fun _ _ _ _ h=>nE h
 |succ n ih =>
  exact fun x6 x7 b1000003 r h =>
   cE h (fun h0 h=>bE h fun r1 h1 h=>iE h fun h2 h=>iE h fun h3 h=>tS xLs (xQY x6 x7 b1000003 r1) (oc4 h0 (xAg h1) h2 h3 on) (ih _ _ _ _ h)) fun h0 h =>
   dS h xLs (xQZ x6 x7 b1000003) (oc h0 on)
theorem xS7{N:Nat}:∀a0 a1 a2 r,xBP N a0 a1 a2=some r→RE Tryz.f148 xJa (xB7 a0 a1 a2) (xBc r):=fun a0 a1 a2 r h =>
 tE xLs (xQ0 a0 a1 a2) on (xS6 _ _ _ _ _ h)
theorem xGl{N:Nat}{a0:Int}{a1:Int}{a2:List Org}{r:(List Org)}(h:xBP N  a0 a1 a2=some r):AbC 148 (xB7 a0 a1 a2) (xBc r) :=
 AbsCalls.of_reach xLs rfl rfl rfl (Nat.le_of_ble_eq_true rfl) (xS7 a0 a1 a2 r h)
noncomputable def xHo:Info:= { body:=(Tryz.f146.body).getD .skip,nt:=54,results:= [],keep:= [0,2,4,6,12,14,16,18,20,30,66,86,2000006,7,15,2000007],live:= [(6, [2,6,12,14,16,18,2000006,7,15,2000007])],modes:= [(8, [(1, .take,false)])],ext:= [1000003] }
theorem xJF:FnOk Tryz.prog 146 Tryz.f146 xHo:=⟨Tryz.func146,by kernel_rfl,by kernel_rfl,by kernel_rfl,by kernel_rfl⟩
def xHI(x1 x6 x8 x9 b7:Int)(b1000003:List Org):St:= [(2, .v false [.int .i64 x1]),(6, .v false [.ptr 3 0]),(12, .v false [.int .i64 x6]),(14, .v false [.ptr 7 0]),(16, .v false [.int .u64 x8]),(18, .v false [.int .i64 x9]),(7, .v true [.clo 64 [1000003], .swp 141 0 (.pointer (some ⟨0,80,none⟩)) 1000003]),(15, .v true [.int .u64 b7]),(2000007, .v true [.sl (.lnt 0) .org b1000003])]
abbrev xRN(v0 v1 v2:Int):=dc (v0≤(W ((W (v1+(W ((W (Int.tdiv v2 4))*2))))+1)))
abbrev xOR(v0:Int × Int)(v1:Int):=W ((andI .u64 v0.1 (IntKind.u64.wrap (v1 - 1))))
def xQK(x1 x6 x8 x9 b7:Int)(b1000003:List Org)(r1:Int × Int)(r2:(List Org)):rS 6 xHo (xHI x1 x6 x8 x9 b7 b1000003) [Y,Y] [xCS r1,xAa r2]=st 6 xHo (xHI x1 x6 x8 (W (x9+1)) r1.2 r2) [4≠(0:Int),iY (xRN x9 x1 x6),AbC 168 (xEc b7) (xCS r1),iY (dc (((xOR r1 x8):Int)≥x6)),AbC 141 (xAn x9 (W (x1+(W ((xOR r1 x8) - x6)))) b1000003) (xAa r2),2≤Ln b1000003,Ln r2=Ln b1000003]:=by kernel_rfl
def xQL(x1 x6 x8 x9 b7:Int)(b1000003:List Org)(r1:Int × Int)(r2:(List Org)):rS 6 xHo (xHI x1 x6 x8 x9 b7 b1000003) [Y,F] [xCS r1,xAa r2]=st 6 xHo (xHI x1 x6 x8 (W (x9+1)) r1.2 r2) [4≠(0:Int),iY (xRN x9 x1 x6),AbC 168 (xEc b7) (xCS r1),iN (dc (((xOR r1 x8):Int)≥x6)),AbC 141 (xAn x9 (W (x1+(xOR r1 x8))) b1000003) (xAa r2),2≤Ln b1000003,Ln r2=Ln b1000003]:=by kernel_rfl
def xQM(x1 x6 x8 x9 b7:Int)(b1000003:List Org):rS 6 xHo (xHI x1 x6 x8 x9 b7 b1000003) [F] []=dn (xAV b1000003) [4≠(0:Int),iN (xRN x9 x1 x6)]:=by kernel_rfl
abbrev xSb(v0 v1:Int):Prop:=iY (dc ((W (v0 - v1))≥8))
abbrev xL8(v0 v1:Int):=W (v0+(W ((W (Int.tdiv (W (v1 - v0)) 4))*2)))
def xQN(a0 a1:Int)(a2:List Org)(r1:Int):rE xHo (xBA a0 a1 a2) [Y] [xDP r1]=st 6 xHo (xHI a0 (W (a1 - a0)) r1 (W ((xL8 a0 a1) - 1)) (IntKind.u64.wrap ((W (a1 - a0)))) a2) [xSb a1 a0,AbC 167 (xE8 (W (a1 - a0))) (xDP r1),4≠(0:Int)]:=by kernel_rfl
def xQO(a0 a1:Int)(a2:List Org):rE xHo (xBA a0 a1 a2) [F] []=dn (xAV a2) [iN (dc ((W (a1 - a0))≥8))]:=by kernel_rfl
theorem xS3{N:Nat}:∀n x1 x6 x8 x9 b7 b1000003 r,xAU N n x1 x6 x8 x9 b7 b1000003=some r→RS Tryz.f146 xHo 6 (xHI x1 x6 x8 x9 b7 b1000003) (xAV r):=by
 intro n
 induction n with
 |zero=>exact fun _ _ _ _ _ _ _ h=>nE h
 |succ n ih =>
  exact fun x1 x6 x8 x9 b7 b1000003 r h =>
   cE h (fun h1 h=>bE h fun r1 h2 h=>cE h (fun h3 h=>bE h fun r2 h4 h=>iE h fun h5 h=>iE h fun h6 h=>tS xJF (xQK x1 x6 x8 x9 b7 b1000003 r1 r2) (oc7 (by decide) h1 (xIc h2) h3 (xAg h4) h5 h6 on) (ih _ _ _ _ _ _ _ h)) fun h3 h =>
   bE h fun r2 h4 h=>iE h fun h5 h=>iE h fun h6 h=>tS xJF (xQL x1 x6 x8 x9 b7 b1000003 r1 r2) (oc7 (by decide) h1 (xIc h2) h3 (xAg h4) h5 h6 on) (ih _ _ _ _ _ _ _ h)) fun h1 h =>
   dS h xJF (xQM x1 x6 x8 x9 b7 b1000003) (oc2 (by decide) h1 on)
theorem xS4{N:Nat}:∀a0 a1 a2 r,xBK N a0 a1 a2=some r→RE Tryz.f146 xHo (xBA a0 a1 a2) (xAV r):=fun a0 a1 a2 r h =>
 cE h (fun h0 h=>bE h fun r1 h1 h=>tE xJF (xQN a0 a1 a2 r1) (oc3 h0 (xKm h1) (by decide) on) (xS3 _ _ _ _ _ _ _ _ h)) fun h0 h =>
 dE h xJF (xQO a0 a1 a2) (oc h0 on)
theorem xF5{N:Nat}{a0:Int}{a1:Int}{a2:List Org}{r:(List Org)}(h:xBK N  a0 a1 a2=some r):AbC 146 (xBA a0 a1 a2) (xAV r) :=
 AbsCalls.of_reach xJF rfl rfl rfl (Nat.le_of_ble_eq_true rfl) (xS4 a0 a1 a2 r h)
noncomputable def I65:Info:= { body:=(Tryz.f65.body).getD .skip,nt:=24,results:= [.tmp 4],keep:= [0,2,4,6,8,5,7],live:= [],modes:= [(1, [(5, .take,false),(11, .take,false)])] }
theorem fk65:FnOk Tryz.prog 65 Tryz.f65 I65:=⟨Tryz.func65,by kernel_rfl,by kernel_rfl,by kernel_rfl,by kernel_rfl⟩
def vBq(a0 a1:Org):rE I65 (xCH a0 a1) [Y] []=dn (xBS true) [iY (dc ((Org.cell a0)<(Org.cell a1)))]:=by kernel_rfl
abbrev xVi(v0 v1:Org):Prop:=iN (dc ((Org.cell v0)<(Org.cell v1)))
def vBr(a0 a1:Org):rE I65 (xCH a0 a1) [F,Y] []=dn (xBS (dc ((Org.row a0)<(Org.row a1)))) [xVi a0 a1,iY ((Org.cell a0)==(Org.cell a1))]:=by kernel_rfl
def vBs(a0 a1:Org):rE I65 (xCH a0 a1) [F,F] []=dn (xBS false) [xVi a0 a1,iN ((Org.cell a0)==(Org.cell a1))]:=by kernel_rfl
theorem vEO{N:Nat}:∀a0 a1 r,xDT N a0 a1=some r→RE Tryz.f65 I65 (xCH a0 a1) (xBS r):=fun a0 a1 r h =>
 cE h (fun h0 h=>dE h fk65 (vBq a0 a1) (oc h0 on)) fun h0 h =>
 cE h (fun h1 h=>dE h fk65 (vBr a0 a1) (oc2 h0 h1 on)) fun h1 h =>
 dE h fk65 (vBs a0 a1) (oc2 h0 h1 on)
theorem xGP{N:Nat}{a0:Org}{a1:Org}{r:Bool}(h:xDT N  a0 a1=some r):AbC 65 (xCH a0 a1) (xBS r) :=
 AbsCalls.of_reach fk65 rfl rfl rfl (Nat.le_of_ble_eq_true rfl) (vEO a0 a1 r h)
noncomputable def xOx:Info:= { body:=(Tryz.f64.body).getD .skip,nt:=15,results:= [.tmp 5],keep:= [0,2,4,10,5],live:= [],modes:= [],ext:= [2] }
theorem xQm:FnOk Tryz.prog 64 Tryz.f64 xOx:=⟨Tryz.func64,by kernel_rfl,by kernel_rfl,by kernel_rfl,by kernel_rfl⟩
abbrev xEX(v0:Int)(v1:List Org):Prop:=(0:Int)≤v0∧v0<(Ln v1)
abbrev xGj(v0:List Org)(v1:Int):=gD v0 (tN v1) Ty.org.dflt
def xQ3(a0 a1:Int)(a2:List Org)(r1:Bool):rE xOx (xA0 a0 a1 a2) [] [xBS r1]=dn (xAc (r1,a2)) [xEX a0 a2,xEX a1 a2,AbC 65 (xCH (xGj a2 a0) (xGj a2 a1)) (xBS r1)]:=by kernel_rfl
theorem xTb{N:Nat}:∀a0 a1 a2 r,xAD N a0 a1 a2=some r→RE Tryz.f64 xOx (xA0 a0 a1 a2) (xAc r):=fun a0 a1 a2 r h =>
 iE h fun h0 h=>iE h fun h1 h=>bE h fun r1 h2 h=>dE h xQm (xQ3 a0 a1 a2 r1) (oc3 h0 h1 (xGP h2) on)
theorem xAh{N:Nat}{a0:Int}{a1:Int}{a2:List Org}{r:Bool × (List Org)}(h:xAD N  a0 a1 a2=some r):AbC 64 (xA0 a0 a1 a2) (xAc r) :=
 AbsCalls.of_reach xQm rfl rfl rfl (Nat.le_of_ble_eq_true rfl) (xTb a0 a1 a2 r h)
noncomputable def xBE:Info:= { body:=(Tryz.f151.body).getD .skip,nt:=107,results:= [.tmp 8, .tmp 9],keep:= [0,2,4,6,8,16,18,20,22,60,86,96,146,172,182,2000008,9,2000009],live:= [(3, [2,8,20,22,2000008,9,2000009]),(5, [2,8,20,22,2000008,9,2000009]),(13, [2,8,20,22,2000008,9,2000009]),(15, [2,8,20,22,2000008,9,2000009])],modes:= [(3, [(3, .take,false)]),(5, [(3, .take,false)]),(13, [(3, .take,false)]),(15, [(3, .take,false)])],ext:= [1000004] }
theorem xDa:FnOk Tryz.prog 151 Tryz.f151 xBE:=⟨Tryz.func151,by kernel_rfl,by kernel_rfl,by kernel_rfl,by kernel_rfl⟩
def xHG(x1 x10 x11:Int)(b1000004:List Org):St:= [(2, .v false [.int .i64 x1]),(8, .v false [.ptr 4 0]),(20, .v false [.int .i64 x10]),(22, .v false [.int .i64 x11]),(9, .v true [.clo 64 [1000004], .swp 141 0 (.pointer (some ⟨0,80,none⟩)) 1000004]),(2000009, .v true [.sl (.lnt 0) .org b1000004])]
def xFM(x1 x10 x11:Int)(b1000004:List Org):St:= [(2, .v false [.int .i64 x1]),(8, .v false [.ptr 4 0]),(20, .v false [.int .i64 x10]),(22, .v false [.int .i64 x11]),(9, .v true [.clo 64 [1000004], .swp 141 0 (.pointer (some ⟨0,80,none⟩)) 1000004]),(2000009, .v true [.sl (.lnt 0) .org b1000004])]
def xEz(x1 x10 x11:Int)(b1000004:List Org):St:= [(2, .v false [.int .i64 x1]),(8, .v false [.ptr 4 0]),(20, .v false [.int .i64 x10]),(22, .v false [.int .i64 x11]),(9, .v true [.clo 64 [1000004], .swp 141 0 (.pointer (some ⟨0,80,none⟩)) 1000004]),(2000009, .v true [.sl (.lnt 0) .org b1000004])]
def xFf(x1 x10 x11:Int)(b1000004:List Org):St:= [(2, .v false [.int .i64 x1]),(8, .v false [.ptr 4 0]),(20, .v false [.int .i64 x10]),(22, .v false [.int .i64 x11]),(9, .v true [.clo 64 [1000004], .swp 141 0 (.pointer (some ⟨0,80,none⟩)) 1000004]),(2000009, .v true [.sl (.lnt 0) .org b1000004])]
abbrev xKO(v0 v1:Int):Prop:=iY (dc (v0≤v1))
abbrev xKA(v0 v1:Int)(v2:List Org)(v3:Bool × (List Org)):Prop:=AbC 64 (xA0 v0 v1 v2) (xAc v3)
def xNT(x1 x10 x11:Int)(b1000004:List Org)(r1:Bool × (List Org)):rS 15 xBE (xFf x1 x10 x11 b1000004) [Y,Y] [xAc r1]=st 15 xBE (xFf x1 x10 (W (x11 - 1)) r1.2) [xKO x10 x11,xKA x11 x1 b1000004 r1,iY (!r1.1)]:=by kernel_rfl
def xNU(x1 x10 x11:Int)(b1000004:List Org)(r1:Bool × (List Org))(r2:(List Org)):rS 15 xBE (xFf x1 x10 x11 b1000004) [Y,F,Y] [xAc r1,xAa r2]=dn (xAo (x11,false,r2)) [xKO x10 x11,xKA x11 x1 b1000004 r1,iN (!r1.1),iY (dc (x10>x11)),AbC 141 (xAn x11 x1 r1.2) (xAa r2),2≤Ln r1.2,Ln r2=Ln r1.2]:=by kernel_rfl
def xNV(x1 x10 x11:Int)(b1000004:List Org)(r1:Bool × (List Org))(r2:(List Org)):rS 15 xBE (xFf x1 x10 x11 b1000004) [Y,F,F] [xAc r1,xAa r2]=st 13 xBE (xEz x1 (W (x10+1)) (W (x11 - 1)) r2) [xKO x10 x11,xKA x11 x1 b1000004 r1,iN (!r1.1),iN (dc (x10>x11)),AbC 141 (xAn x10 x11 r1.2) (xAa r2),2≤Ln r1.2,Ln r2=Ln r1.2]:=by kernel_rfl
abbrev xNP(v0 v1:Int):Prop:=iN (dc (v0≤v1))
def xNW(x1 x10 x11:Int)(b1000004:List Org)(r1:(List Org)):rS 15 xBE (xFf x1 x10 x11 b1000004) [F,F,Y] [xAa r1]=dn (xAo (x11,false,r1)) [xNP x10 x11,iN false,iY (dc (x10>x11)),xQs x11 x1 b1000004 r1,2≤Ln b1000004,Ln r1=Ln b1000004]:=by kernel_rfl
def xNX(x1 x10 x11:Int)(b1000004:List Org)(r1:(List Org)):rS 15 xBE (xFf x1 x10 x11 b1000004) [F,F,F] [xAa r1]=st 13 xBE (xEz x1 (W (x10+1)) (W (x11 - 1)) r1) [xNP x10 x11,iN false,iN (dc (x10>x11)),xQs x10 x11 b1000004 r1,2≤Ln b1000004,Ln r1=Ln b1000004]:=by kernel_rfl
def xNQ(x1 x10 x11:Int)(b1000004:List Org)(r1:Bool × (List Org)):rS 13 xBE (xEz x1 x10 x11 b1000004) [Y,Y] [xAc r1]=st 13 xBE (xEz x1 (W (x10+1)) x11 r1.2) [xKO x10 x11,xKA x10 x1 b1000004 r1,iY r1.1]:=by kernel_rfl
def xNR(x1 x10 x11:Int)(b1000004:List Org)(r1:Bool × (List Org)):rS 13 xBE (xEz x1 x10 x11 b1000004) [Y,F] [xAc r1]=st 15 xBE (xFf x1 x10 x11 r1.2) [xKO x10 x11,xKA x10 x1 b1000004 r1,iN r1.1]:=by kernel_rfl
def xNS(x1 x10 x11:Int)(b1000004:List Org):rS 13 xBE (xEz x1 x10 x11 b1000004) [F,F] []=st 15 xBE (xFf x1 x10 x11 b1000004) [xNP x10 x11,iN false]:=by kernel_rfl
def xPj(x1 x10 x11:Int)(b1000004:List Org)(r1:Bool × (List Org)):rS 5 xBE (xFM x1 x10 x11 b1000004) [Y,Y] [xAc r1]=st 5 xBE (xFM x1 x10 (W (x11 - 1)) r1.2) [xKO x10 x11,xKA x11 x1 b1000004 r1,iY (!r1.1)]:=by kernel_rfl
def xPk(x1 x10 x11:Int)(b1000004:List Org)(r1:Bool × (List Org))(r2:(List Org)):rS 5 xBE (xFM x1 x10 x11 b1000004) [Y,F,Y] [xAc r1,xAa r2]=dn (xAo (x11,true,r2)) [xKO x10 x11,xKA x11 x1 b1000004 r1,iN (!r1.1),iY (dc (x10>x11)),AbC 141 (xAn x11 x1 r1.2) (xAa r2),2≤Ln r1.2,Ln r2=Ln r1.2]:=by kernel_rfl
def xN1(x1 x10 x11:Int)(b1000004:List Org)(r1:Bool × (List Org))(r2:(List Org)):rS 5 xBE (xFM x1 x10 x11 b1000004) [Y,F,F] [xAc r1,xAa r2]=st 13 xBE (xEz x1 (W (x10+1)) (W (x11 - 1)) r2) [xKO x10 x11,xKA x11 x1 b1000004 r1,iN (!r1.1),iN (dc (x10>x11)),AbC 141 (xAn x10 x11 r1.2) (xAa r2),2≤Ln r1.2,Ln r2=Ln r1.2]:=by kernel_rfl
def xN2(x1 x10 x11:Int)(b1000004:List Org)(r1:(List Org)):rS 5 xBE (xFM x1 x10 x11 b1000004) [F,F,Y] [xAa r1]=dn (xAo (x11,true,r1)) [xNP x10 x11,iN false,iY (dc (x10>x11)),xQs x11 x1 b1000004 r1,2≤Ln b1000004,Ln r1=Ln b1000004]:=by kernel_rfl
def xN3(x1 x10 x11:Int)(b1000004:List Org)(r1:(List Org)):rS 5 xBE (xFM x1 x10 x11 b1000004) [F,F,F] [xAa r1]=st 13 xBE (xEz x1 (W (x10+1)) (W (x11 - 1)) r1) [xNP x10 x11,iN false,iN (dc (x10>x11)),xQs x10 x11 b1000004 r1,2≤Ln b1000004,Ln r1=Ln b1000004]:=by kernel_rfl
def xNY(x1 x10 x11:Int)(b1000004:List Org)(r1:Bool × (List Org)):rS 3 xBE (xHG x1 x10 x11 b1000004) [Y,Y] [xAc r1]=st 3 xBE (xHG x1 (W (x10+1)) x11 r1.2) [xKO x10 x11,xKA x10 x1 b1000004 r1,iY r1.1]:=by kernel_rfl
def xNZ(x1 x10 x11:Int)(b1000004:List Org)(r1:Bool × (List Org)):rS 3 xBE (xHG x1 x10 x11 b1000004) [Y,F] [xAc r1]=st 5 xBE (xFM x1 x10 x11 r1.2) [xKO x10 x11,xKA x10 x1 b1000004 r1,iN r1.1]:=by kernel_rfl
def xN0(x1 x10 x11:Int)(b1000004:List Org):rS 3 xBE (xHG x1 x10 x11 b1000004) [F,F] []=st 5 xBE (xFM x1 x10 x11 b1000004) [xNP x10 x11,iN false]:=by kernel_rfl
def xN4(a0 a1 a2:Int)(a3:List Org)(r1:(List Org)):rE xBE (xBO a0 a1 a2 a3) [] [xAa r1]=st 3 xBE (xHG a0 (W (a0+1)) (W (a1 - 1)) r1) [xQs a0 a2 a3 r1,2≤Ln a3,Ln r1=Ln a3]:=by kernel_rfl
theorem xMq{N:Nat}{k13:Int→Int→Int→(List Org)→Option (Int × Bool × (List Org))}(hk13:∀z0 z1 z2 z3 r,k13 z0 z1 z2 z3=some r→RS Tryz.f151 xBE 13 (xEz z0 z1 z2 z3) (xAo r)):∀n x1 x10 x11 b1000004 r,xAP N k13 n x1 x10 x11 b1000004=some r→RS Tryz.f151 xBE 15 (xFf x1 x10 x11 b1000004) (xAo r):=by
 intro n
 induction n with
 |zero=>exact fun _ _ _ _ _ h=>nE h
 |succ n ih =>
  exact fun x1 x10 x11 b1000004 r h =>
   cE h (fun h0 h=>bE h fun r1 h1 h=>cE h (fun h2 h=>tS xDa (xNT x1 x10 x11 b1000004 r1) (oc3 h0 (xAh h1) h2 on) (ih _ _ _ _ _ h)) fun h2 h =>
   cE h (fun h3 h=>bE h fun r2 h4 h=>iE h fun h5 h=>iE h fun h6 h=>dS h xDa (xNU x1 x10 x11 b1000004 r1 r2) (oc7 h0 (xAh h1) h2 h3 (xAg h4) h5 h6 on)) fun h3 h =>
   bE h fun r2 h4 h=>iE h fun h5 h=>iE h fun h6 h=>tS xDa (xNV x1 x10 x11 b1000004 r1 r2) (oc7 h0 (xAh h1) h2 h3 (xAg h4) h5 h6 on) (hk13 _ _ _ _ _ h)) fun h0 h =>
   cE h (fun h2 h=>bE h fun r1 h3 h=>iE h fun h4 h=>iE h fun h5 h=>dS h xDa (xNW x1 x10 x11 b1000004 r1) (oc6 h0 rfl h2 (xAg h3) h4 h5 on)) fun h2 h =>
   bE h fun r1 h3 h=>iE h fun h4 h=>iE h fun h5 h=>tS xDa (xNX x1 x10 x11 b1000004 r1) (oc6 h0 rfl h2 (xAg h3) h4 h5 on) (hk13 _ _ _ _ _ h)
theorem xMp{N:Nat}:∀n x1 x10 x11 b1000004 r,xAz N n x1 x10 x11 b1000004=some r→RS Tryz.f151 xBE 13 (xEz x1 x10 x11 b1000004) (xAo r):=by
 intro n
 induction n with
 |zero=>exact fun _ _ _ _ _ h=>nE h
 |succ n ih =>
  exact fun x1 x10 x11 b1000004 r h =>
   cE h (fun h0 h=>bE h fun r1 h1 h=>cE h (fun h2 h=>tS xDa (xNQ x1 x10 x11 b1000004 r1) (oc3 h0 (xAh h1) h2 on) (ih _ _ _ _ _ h)) fun h2 h =>
   tS xDa (xNR x1 x10 x11 b1000004 r1) (oc3 h0 (xAh h1) h2 on) (xMq ih _ _ _ _ _ _ h)) fun h0 h =>
   tS xDa (xNS x1 x10 x11 b1000004) (oc2 h0 rfl on) (xMq ih _ _ _ _ _ _ h)
theorem xMS{N:Nat}:∀n x1 x10 x11 b1000004 r,xAT N n x1 x10 x11 b1000004=some r→RS Tryz.f151 xBE 5 (xFM x1 x10 x11 b1000004) (xAo r):=by
 intro n
 induction n with
 |zero=>exact fun _ _ _ _ _ h=>nE h
 |succ n ih =>
  exact fun x1 x10 x11 b1000004 r h =>
   cE h (fun h0 h=>bE h fun r1 h1 h=>cE h (fun h2 h=>tS xDa (xPj x1 x10 x11 b1000004 r1) (oc3 h0 (xAh h1) h2 on) (ih _ _ _ _ _ h)) fun h2 h =>
   cE h (fun h3 h=>bE h fun r2 h4 h=>iE h fun h5 h=>iE h fun h6 h=>dS h xDa (xPk x1 x10 x11 b1000004 r1 r2) (oc7 h0 (xAh h1) h2 h3 (xAg h4) h5 h6 on)) fun h3 h =>
   bE h fun r2 h4 h=>iE h fun h5 h=>iE h fun h6 h=>tS xDa (xN1 x1 x10 x11 b1000004 r1 r2) (oc7 h0 (xAh h1) h2 h3 (xAg h4) h5 h6 on) (xMp _ _ _ _ _ _ h)) fun h0 h =>
   cE h (fun h2 h=>bE h fun r1 h3 h=>iE h fun h4 h=>iE h fun h5 h=>dS h xDa (xN2 x1 x10 x11 b1000004 r1) (oc6 h0 rfl h2 (xAg h3) h4 h5 on)) fun h2 h =>
   bE h fun r1 h3 h=>iE h fun h4 h=>iE h fun h5 h=>tS xDa (xN3 x1 x10 x11 b1000004 r1) (oc6 h0 rfl h2 (xAg h3) h4 h5 on) (xMp _ _ _ _ _ _ h)
theorem xRm{N:Nat}:∀n x1 x10 x11 b1000004 r,xBm N n x1 x10 x11 b1000004=some r→RS Tryz.f151 xBE 3 (xHG x1 x10 x11 b1000004) (xAo r):=by
 intro n
 induction n with
 |zero=>exact fun _ _ _ _ _ h=>nE h
 |succ n ih =>
  exact fun x1 x10 x11 b1000004 r h =>
   cE h (fun h0 h=>bE h fun r1 h1 h=>cE h (fun h2 h=>tS xDa (xNY x1 x10 x11 b1000004 r1) (oc3 h0 (xAh h1) h2 on) (ih _ _ _ _ _ h)) fun h2 h =>
   tS xDa (xNZ x1 x10 x11 b1000004 r1) (oc3 h0 (xAh h1) h2 on) (xMS _ _ _ _ _ _ h)) fun h0 h =>
   tS xDa (xN0 x1 x10 x11 b1000004) (oc2 h0 rfl on) (xMS _ _ _ _ _ _ h)
theorem xRn{N:Nat}:∀a0 a1 a2 a3 r,xB4 N a0 a1 a2 a3=some r→RE Tryz.f151 xBE (xBO a0 a1 a2 a3) (xAo r):=fun a0 a1 a2 a3 r h =>
 bE h fun r1 h0 h=>iE h fun h1 h=>iE h fun h2 h=>tE xDa (xN4 a0 a1 a2 a3 r1) (oc3 (xAg h0) h1 h2 on) (xRm _ _ _ _ _ _ h)
theorem xEm{N:Nat}{a0:Int}{a1:Int}{a2:Int}{a3:List Org}{r:Int × Bool × (List Org)}(h:xB4 N  a0 a1 a2 a3=some r):AbC 151 (xBO a0 a1 a2 a3) (xAo r) :=
 AbsCalls.of_reach xDa rfl rfl rfl (Nat.le_of_ble_eq_true rfl) (xRn a0 a1 a2 a3 r h)
noncomputable def xDb:Info:= { body:=(Tryz.f150.body).getD .skip,nt:=58,results:= [.tmp 8],keep:= [0,2,4,6,8,16,18,20,60,84,94,2000008,9,2000009],live:= [(3, [2,8,18,20,2000008,9,2000009]),(5, [2,8,18,20,2000008,9,2000009])],modes:= [(3, [(3, .take,false)]),(5, [(3, .take,false)])],ext:= [1000004] }
theorem xGa:FnOk Tryz.prog 150 Tryz.f150 xDb:=⟨Tryz.func150,by kernel_rfl,by kernel_rfl,by kernel_rfl,by kernel_rfl⟩
def xFK(x1 x9 x10:Int)(b1000004:List Org):St:= [(2, .v false [.int .i64 x1]),(8, .v false [.ptr 4 0]),(18, .v false [.int .i64 x9]),(20, .v false [.int .i64 x10]),(9, .v true [.clo 64 [1000004], .swp 141 0 (.pointer (some ⟨0,80,none⟩)) 1000004]),(2000009, .v true [.sl (.lnt 0) .org b1000004])]
def xFL(x1 x9 x10:Int)(b1000004:List Org):St:= [(2, .v false [.int .i64 x1]),(8, .v false [.ptr 4 0]),(18, .v false [.int .i64 x9]),(20, .v false [.int .i64 x10]),(9, .v true [.clo 64 [1000004], .swp 141 0 (.pointer (some ⟨0,80,none⟩)) 1000004]),(2000009, .v true [.sl (.lnt 0) .org b1000004])]
def xPd(x1 x9 x10:Int)(b1000004:List Org)(r1:Bool × (List Org)):rS 5 xDb (xFL x1 x9 x10 b1000004) [Y,Y] [xAc r1]=st 5 xDb (xFL x1 x9 (W (x10 - 1)) r1.2) [xKO x9 x10,xKA x1 x10 b1000004 r1,iY r1.1]:=by kernel_rfl
def xPe(x1 x9 x10:Int)(b1000004:List Org)(r1:Bool × (List Org)):rS 5 xDb (xFL x1 x9 x10 b1000004) [Y,F,Y] [xAc r1]=dn (xAx (x9,r1.2)) [xKO x9 x10,xKA x1 x10 b1000004 r1,iN r1.1,iY (dc (x9>x10))]:=by kernel_rfl
def xPf(x1 x9 x10:Int)(b1000004:List Org)(r1:Bool × (List Org))(r2:(List Org)):rS 5 xDb (xFL x1 x9 x10 b1000004) [Y,F,F] [xAc r1,xAa r2]=st 3 xDb (xFK x1 (W (x9+1)) (W (x10 - 1)) r2) [xKO x9 x10,xKA x1 x10 b1000004 r1,iN r1.1,iN (dc (x9>x10)),AbC 141 (xAn x9 x10 r1.2) (xAa r2),2≤Ln r1.2,Ln r2=Ln r1.2]:=by kernel_rfl
def xPg(x1 x9 x10:Int)(b1000004:List Org):rS 5 xDb (xFL x1 x9 x10 b1000004) [F,F,Y] []=dn (xAx (x9,b1000004)) [xNP x9 x10,iN false,iY (dc (x9>x10))]:=by kernel_rfl
def xPh(x1 x9 x10:Int)(b1000004:List Org)(r1:(List Org)):rS 5 xDb (xFL x1 x9 x10 b1000004) [F,F,F] [xAa r1]=st 3 xDb (xFK x1 (W (x9+1)) (W (x10 - 1)) r1) [xNP x9 x10,iN false,iN (dc (x9>x10)),xQs x9 x10 b1000004 r1,2≤Ln b1000004,Ln r1=Ln b1000004]:=by kernel_rfl
def xPa(x1 x9 x10:Int)(b1000004:List Org)(r1:Bool × (List Org)):rS 3 xDb (xFK x1 x9 x10 b1000004) [Y,Y] [xAc r1]=st 3 xDb (xFK x1 (W (x9+1)) x10 r1.2) [xKO x9 x10,xKA x1 x9 b1000004 r1,iY (!r1.1)]:=by kernel_rfl
def xPb(x1 x9 x10:Int)(b1000004:List Org)(r1:Bool × (List Org)):rS 3 xDb (xFK x1 x9 x10 b1000004) [Y,F] [xAc r1]=st 5 xDb (xFL x1 x9 x10 r1.2) [xKO x9 x10,xKA x1 x9 b1000004 r1,iN (!r1.1)]:=by kernel_rfl
def xPc(x1 x9 x10:Int)(b1000004:List Org):rS 3 xDb (xFK x1 x9 x10 b1000004) [F,F] []=st 5 xDb (xFL x1 x9 x10 b1000004) [xNP x9 x10,iN false]:=by kernel_rfl
def xPi(a0 a1 a2:Int)(a3:List Org)(r1:(List Org)):rE xDb (xBY a0 a1 a2 a3) [] [xAa r1]=st 3 xDb (xFK a0 (W (a0+1)) (W (a1 - 1)) r1) [xQs a0 a2 a3 r1,2≤Ln a3,Ln r1=Ln a3]:=by kernel_rfl
theorem xMR{N:Nat}{k3:Int→Int→Int→(List Org)→Option (Int × (List Org))}(hk3:∀z0 z1 z2 z3 r,k3 z0 z1 z2 z3=some r→RS Tryz.f150 xDb 3 (xFK z0 z1 z2 z3) (xAx r)):∀n x1 x9 x10 b1000004 r,xAH N k3 n x1 x9 x10 b1000004=some r→RS Tryz.f150 xDb 5 (xFL x1 x9 x10 b1000004) (xAx r):=by
 intro n
 induction n with
 |zero=>exact fun _ _ _ _ _ h=>nE h
 |succ n ih =>
  exact fun x1 x9 x10 b1000004 r h =>
   cE h (fun h0 h=>bE h fun r1 h1 h=>cE h (fun h2 h=>tS xGa (xPd x1 x9 x10 b1000004 r1) (oc3 h0 (xAh h1) h2 on) (ih _ _ _ _ _ h)) fun h2 h =>
   cE h (fun h3 h=>dS h xGa (xPe x1 x9 x10 b1000004 r1) (oc4 h0 (xAh h1) h2 h3 on)) fun h3 h =>
   bE h fun r2 h4 h=>iE h fun h5 h=>iE h fun h6 h=>tS xGa (xPf x1 x9 x10 b1000004 r1 r2) (oc7 h0 (xAh h1) h2 h3 (xAg h4) h5 h6 on) (hk3 _ _ _ _ _ h)) fun h0 h =>
   cE h (fun h2 h=>dS h xGa (xPg x1 x9 x10 b1000004) (oc3 h0 rfl h2 on)) fun h2 h =>
   bE h fun r1 h3 h=>iE h fun h4 h=>iE h fun h5 h=>tS xGa (xPh x1 x9 x10 b1000004 r1) (oc6 h0 rfl h2 (xAg h3) h4 h5 on) (hk3 _ _ _ _ _ h)
theorem xRk{N:Nat}:∀n x1 x9 x10 b1000004 r,xAG N n x1 x9 x10 b1000004=some r→RS Tryz.f150 xDb 3 (xFK x1 x9 x10 b1000004) (xAx r):=by
 intro n
 induction n with
 |zero=>exact fun _ _ _ _ _ h=>nE h
 |succ n ih =>
  exact fun x1 x9 x10 b1000004 r h =>
   cE h (fun h0 h=>bE h fun r1 h1 h=>cE h (fun h2 h=>tS xGa (xPa x1 x9 x10 b1000004 r1) (oc3 h0 (xAh h1) h2 on) (ih _ _ _ _ _ h)) fun h2 h =>
   tS xGa (xPb x1 x9 x10 b1000004 r1) (oc3 h0 (xAh h1) h2 on) (xMR ih _ _ _ _ _ _ h)) fun h0 h =>
   tS xGa (xPc x1 x9 x10 b1000004) (oc2 h0 rfl on) (xMR ih _ _ _ _ _ _ h)
theorem xRl{N:Nat}:∀a0 a1 a2 a3 r,xBI N a0 a1 a2 a3=some r→RE Tryz.f150 xDb (xBY a0 a1 a2 a3) (xAx r):=fun a0 a1 a2 a3 r h =>
 bE h fun r1 h0 h=>iE h fun h1 h=>iE h fun h2 h=>tE xGa (xPi a0 a1 a2 a3 r1) (oc3 (xAg h0) h1 h2 on) (xRk _ _ _ _ _ _ h)
theorem xFS{N:Nat}{a0:Int}{a1:Int}{a2:Int}{a3:List Org}{r:Int × (List Org)}(h:xBI N  a0 a1 a2 a3=some r):AbC 150 (xBY a0 a1 a2 a3) (xAx r) :=
 AbsCalls.of_reach xGa rfl rfl rfl (Nat.le_of_ble_eq_true rfl) (xRl a0 a1 a2 a3 r h)
noncomputable def xBx:Info:= { body:=(Tryz.f149.body).getD .skip,nt:=91,results:= [.tmp 6],keep:= [0,2,4,6,12,14,16,18,20,28,56,66,74,94,102,120,140,150,168,2000006,7,2000007],live:= [(3, [2,4,6,14,16,2000006,7,2000007]),(5, [2,4,6,14,16,2000006,7,2000007]),(7, [2,4,6,14,16,2000006,7,2000007]),(14, [2,4,6,14,16,18,2000006,7,2000007]),(18, [2,4,6,14,16,2000006,7,2000007]),(20, [2,4,6,14,16,20,2000006,7,2000007])],modes:= [(5, [(3, .take,false)])],ext:= [1000003] }
theorem xDz:FnOk Tryz.prog 149 Tryz.f149 xBx:=⟨Tryz.func149,by kernel_rfl,by kernel_rfl,by kernel_rfl,by kernel_rfl⟩
def xFa(x1 x2 x7 x8:Int)(b1000003:List Org):St:= [(2, .v false [.int .i64 x1]),(4, .v false [.int .i64 x2]),(6, .v false [.ptr 3 0]),(14, .v false [.int .i64 x7]),(16, .v false [.int .i64 x8]),(7, .v true [.clo 64 [1000003], .swp 141 0 (.pointer (some ⟨0,80,none⟩)) 1000003]),(2000007, .v true [.sl (.lnt 0) .org b1000003])]
def xIt(x1 x2 x7 x8:Int)(b1000003:List Org):St:= [(2, .v false [.int .i64 x1]),(4, .v false [.int .i64 x2]),(6, .v false [.ptr 3 0]),(14, .v false [.int .i64 x7]),(16, .v false [.int .i64 x8]),(7, .v true [.clo 64 [1000003], .swp 141 0 (.pointer (some ⟨0,80,none⟩)) 1000003]),(2000007, .v true [.sl (.lnt 0) .org b1000003])]
def xHM(x1 x2 x7 x8:Int)(b1000003:List Org):St:= [(2, .v false [.int .i64 x1]),(4, .v false [.int .i64 x2]),(6, .v false [.ptr 3 0]),(14, .v false [.int .i64 x7]),(16, .v false [.int .i64 x8]),(7, .v true [.clo 64 [1000003], .swp 141 0 (.pointer (some ⟨0,80,none⟩)) 1000003]),(2000007, .v true [.sl (.lnt 0) .org b1000003])]
def xHJ(x1 x2 x7 x8 x9:Int)(b1000003:List Org):St:= [(2, .v false [.int .i64 x1]),(4, .v false [.int .i64 x2]),(6, .v false [.ptr 3 0]),(14, .v false [.int .i64 x7]),(16, .v false [.int .i64 x8]),(18, .v false [.int .i64 x9]),(7, .v true [.clo 64 [1000003], .swp 141 0 (.pointer (some ⟨0,80,none⟩)) 1000003]),(2000007, .v true [.sl (.lnt 0) .org b1000003])]
def xHK(x1 x2 x7 x8:Int)(b1000003:List Org):St:= [(2, .v false [.int .i64 x1]),(4, .v false [.int .i64 x2]),(6, .v false [.ptr 3 0]),(14, .v false [.int .i64 x7]),(16, .v false [.int .i64 x8]),(7, .v true [.clo 64 [1000003], .swp 141 0 (.pointer (some ⟨0,80,none⟩)) 1000003]),(2000007, .v true [.sl (.lnt 0) .org b1000003])]
def xHL(x1 x2 x7 x8 x10:Int)(b1000003:List Org):St:= [(2, .v false [.int .i64 x1]),(4, .v false [.int .i64 x2]),(6, .v false [.ptr 3 0]),(14, .v false [.int .i64 x7]),(16, .v false [.int .i64 x8]),(20, .v false [.int .i64 x10]),(7, .v true [.clo 64 [1000003], .swp 141 0 (.pointer (some ⟨0,80,none⟩)) 1000003]),(2000007, .v true [.sl (.lnt 0) .org b1000003])]
abbrev xQx(v0:Int)(v1:List Org)(v2:Bool × (List Org)):Prop:=AbC 64 (xA0 v0 (W (v0 - 1)) v1) (xAc v2)
def xPR(x1 x2 x7 x8 x10:Int)(b1000003:List Org)(r1:Bool × (List Org)):rS 20 xBx (xHL x1 x2 x7 x8 x10 b1000003) [Y,Y] [xAc r1]=st 3 xBx (xFa x1 x2 x7 (W (x8+1)) r1.2) [xFi x10 x2,xQx x10 b1000003 r1,iY (!r1.1)]:=by kernel_rfl
def xPS(x1 x2 x7 x8 x10:Int)(b1000003:List Org)(r1:Bool × (List Org))(r2:(List Org)):rS 20 xBx (xHL x1 x2 x7 x8 x10 b1000003) [Y,F] [xAc r1,xAa r2]=st 20 xBx (xHL x1 x2 x7 x8 (W (x10+1)) r2) [xFi x10 x2,xQx x10 b1000003 r1,iN (!r1.1),AbC 141 (xAn x10 (W (x10 - 1)) r1.2) (xAa r2),2≤Ln r1.2,Ln r2=Ln r1.2]:=by kernel_rfl
def xPT(x1 x2 x7 x8 x10:Int)(b1000003:List Org):rS 20 xBx (xHL x1 x2 x7 x8 x10 b1000003) [F] []=st 3 xBx (xFa x1 x2 x7 (W (x8+1)) b1000003) [xHn x10 x2]:=by kernel_rfl
def xPP(x1 x2 x7 x8:Int)(b1000003:List Org):rS 18 xBx (xHK x1 x2 x7 x8 b1000003) [Y] []=st 20 xBx (xHL x1 x2 x7 x8 (W (x7+1)) b1000003) [iY (dc ((W (x2 - x7))≥2))]:=by kernel_rfl
def xPQ(x1 x2 x7 x8:Int)(b1000003:List Org):rS 18 xBx (xHK x1 x2 x7 x8 b1000003) [F] []=st 3 xBx (xFa x1 x2 x7 (W (x8+1)) b1000003) [iN (dc ((W (x2 - x7))≥2))]:=by kernel_rfl
def xPM(x1 x2 x7 x8 x9:Int)(b1000003:List Org)(r1:Bool × (List Org)):rS 14 xBx (xHJ x1 x2 x7 x8 x9 b1000003) [Y,Y] [xAc r1]=st 18 xBx (xHK x1 x2 x7 x8 r1.2) [iY (dc (x9≥1)),xQx x9 b1000003 r1,iY (!r1.1)]:=by kernel_rfl
def xPN(x1 x2 x7 x8 x9:Int)(b1000003:List Org)(r1:Bool × (List Org))(r2:(List Org)):rS 14 xBx (xHJ x1 x2 x7 x8 x9 b1000003) [Y,F] [xAc r1,xAa r2]=st 14 xBx (xHJ x1 x2 x7 x8 (W (x9 - 1)) r2) [iY (dc (x9≥1)),xQx x9 b1000003 r1,iN (!r1.1),AbC 141 (xAn x9 (W (x9 - 1)) r1.2) (xAa r2),2≤Ln r1.2,Ln r2=Ln r1.2]:=by kernel_rfl
def xPO(x1 x2 x7 x8 x9:Int)(b1000003:List Org):rS 14 xBx (xHJ x1 x2 x7 x8 x9 b1000003) [F] []=st 18 xBx (xHK x1 x2 x7 x8 b1000003) [iN (dc (x9≥1))]:=by kernel_rfl
def xQ1(x1 x2 x7 x8:Int)(b1000003:List Org):rS 7 xBx (xHM x1 x2 x7 x8 b1000003) [Y] []=dn (xAd (true,b1000003)) [iY (x7==x2)]:=by kernel_rfl
def xQ2(x1 x2 x7 x8:Int)(b1000003:List Org):rS 7 xBx (xHM x1 x2 x7 x8 b1000003) [F,Y] []=dn (xAd (false,b1000003)) [iN (x7==x2),iY (dc ((W (x2 - x1))<50))]:=by kernel_rfl
def xPZ(x1 x2 x7 x8:Int)(b1000003:List Org)(r1:(List Org)):rS 7 xBx (xHM x1 x2 x7 x8 b1000003) [F,F,Y] [xAa r1]=st 14 xBx (xHJ x1 x2 x7 x8 (W (x7 - 1)) r1) [iN (x7==x2),iN (dc ((W (x2 - x1))<50)),AbC 141 (xAn x7 (W (x7 - 1)) b1000003) (xAa r1),2≤Ln b1000003,Ln r1=Ln b1000003,iY (dc ((W (x7 - x1))≥2))]:=by kernel_rfl
def xP0(x1 x2 x7 x8:Int)(b1000003:List Org)(r1:(List Org)):rS 7 xBx (xHM x1 x2 x7 x8 b1000003) [F,F,F] [xAa r1]=st 18 xBx (xHK x1 x2 x7 x8 r1) [iN (x7==x2),iN (dc ((W (x2 - x1))<50)),AbC 141 (xAn x7 (W (x7 - 1)) b1000003) (xAa r1),2≤Ln b1000003,Ln r1=Ln b1000003,iN (dc ((W (x7 - x1))≥2))]:=by kernel_rfl
def xPW(x1 x2 x7 x8:Int)(b1000003:List Org)(r1:Bool × (List Org)):rS 5 xBx (xIt x1 x2 x7 x8 b1000003) [Y,Y] [xAc r1]=st 5 xBx (xIt x1 x2 (W (x7+1)) x8 r1.2) [xFi x7 x2,xQx x7 b1000003 r1,iY (!r1.1)]:=by kernel_rfl
def xPX(x1 x2 x7 x8:Int)(b1000003:List Org)(r1:Bool × (List Org)):rS 5 xBx (xIt x1 x2 x7 x8 b1000003) [Y,F] [xAc r1]=st 7 xBx (xHM x1 x2 x7 x8 r1.2) [xFi x7 x2,xQx x7 b1000003 r1,iN (!r1.1)]:=by kernel_rfl
def xPY(x1 x2 x7 x8:Int)(b1000003:List Org):rS 5 xBx (xIt x1 x2 x7 x8 b1000003) [F,F] []=st 7 xBx (xHM x1 x2 x7 x8 b1000003) [xHn x7 x2,iN false]:=by kernel_rfl
def xPU(x1 x2 x7 x8:Int)(b1000003:List Org):rS 3 xBx (xFa x1 x2 x7 x8 b1000003) [Y] []=st 5 xBx (xIt x1 x2 x7 x8 b1000003) [iY (dc (x8<5))]:=by kernel_rfl
def xPV(x1 x2 x7 x8:Int)(b1000003:List Org):rS 3 xBx (xFa x1 x2 x7 x8 b1000003) [F] []=dn (xAd (false,b1000003)) [iN (dc (x8<5))]:=by kernel_rfl
def xP1(a0 a1:Int)(a2:List Org):rE xBx (xA2 a0 a1 a2) [] []=st 3 xBx (xFa a0 a1 (W (a0+1)) 0 a2) []:=by kernel_rfl
theorem xRu{N:Nat}{k3:Int→Int→Int→Int→(List Org)→Option (Bool × (List Org))}(hk3:∀z0 z1 z2 z3 z4 r,k3 z0 z1 z2 z3 z4=some r→RS Tryz.f149 xBx 3 (xFa z0 z1 z2 z3 z4) (xAd r)):∀n x1 x2 x7 x8 x10 b1000003 r,xAO N k3 n x1 x2 x7 x8 x10 b1000003=some r→RS Tryz.f149 xBx 20 (xHL x1 x2 x7 x8 x10 b1000003) (xAd r):=by
 intro n
 induction n with
 |zero=>exact fun _ _ _ _ _ _ _ h=>nE h
 |succ n ih =>
  exact fun x1 x2 x7 x8 x10 b1000003 r h =>
   cE h (fun h0 h=>bE h fun r1 h1 h=>cE h (fun h2 h=>tS xDz (xPR x1 x2 x7 x8 x10 b1000003 r1) (oc3 h0 (xAh h1) h2 on) (hk3 _ _ _ _ _ _ h)) fun h2 h =>
   bE h fun r2 h3 h=>iE h fun h4 h=>iE h fun h5 h=>tS xDz (xPS x1 x2 x7 x8 x10 b1000003 r1 r2) (oc6 h0 (xAh h1) h2 (xAg h3) h4 h5 on) (ih _ _ _ _ _ _ _ h)) fun h0 h =>
   tS xDz (xPT x1 x2 x7 x8 x10 b1000003) (oc h0 on) (hk3 _ _ _ _ _ _ h)
theorem xK1{N:Nat}{k3:Int→Int→Int→Int→(List Org)→Option (Bool × (List Org))}(hk3:∀z0 z1 z2 z3 z4 r,k3 z0 z1 z2 z3 z4=some r→RS Tryz.f149 xBx 3 (xFa z0 z1 z2 z3 z4) (xAd r)):∀x1 x2 x7 x8 b1000003 r,xAC N k3 x1 x2 x7 x8 b1000003=some r→RS Tryz.f149 xBx 18 (xHK x1 x2 x7 x8 b1000003) (xAd r):=fun x1 x2 x7 x8 b1000003 r h =>
 cE h (fun h0 h=>tS xDz (xPP x1 x2 x7 x8 b1000003) (oc h0 on) (xRu hk3 _ _ _ _ _ _ _ _ h)) fun h0 h =>
 tS xDz (xPQ x1 x2 x7 x8 b1000003) (oc h0 on) (hk3 _ _ _ _ _ _ h)
theorem xRt{N:Nat}{k3:Int→Int→Int→Int→(List Org)→Option (Bool × (List Org))}(hk3:∀z0 z1 z2 z3 z4 r,k3 z0 z1 z2 z3 z4=some r→RS Tryz.f149 xBx 3 (xFa z0 z1 z2 z3 z4) (xAd r)):∀n x1 x2 x7 x8 x9 b1000003 r,xAN N k3 n x1 x2 x7 x8 x9 b1000003=some r→RS Tryz.f149 xBx 14 (xHJ x1 x2 x7 x8 x9 b1000003) (xAd r):=by
 intro n
 induction n with
 |zero=>exact fun _ _ _ _ _ _ _ h=>nE h
 |succ n ih =>
  exact fun x1 x2 x7 x8 x9 b1000003 r h =>
   cE h (fun h0 h=>bE h fun r1 h1 h=>cE h (fun h2 h=>tS xDz (xPM x1 x2 x7 x8 x9 b1000003 r1) (oc3 h0 (xAh h1) h2 on) (xK1 hk3 _ _ _ _ _ _ h)) fun h2 h =>
   bE h fun r2 h3 h=>iE h fun h4 h=>iE h fun h5 h=>tS xDz (xPN x1 x2 x7 x8 x9 b1000003 r1 r2) (oc6 h0 (xAh h1) h2 (xAg h3) h4 h5 on) (ih _ _ _ _ _ _ _ h)) fun h0 h =>
   tS xDz (xPO x1 x2 x7 x8 x9 b1000003) (oc h0 on) (xK1 hk3 _ _ _ _ _ _ h)
theorem xOj{N:Nat}{k3:Int→Int→Int→Int→(List Org)→Option (Bool × (List Org))}(hk3:∀z0 z1 z2 z3 z4 r,k3 z0 z1 z2 z3 z4=some r→RS Tryz.f149 xBx 3 (xFa z0 z1 z2 z3 z4) (xAd r)):∀x1 x2 x7 x8 b1000003 r,xAR N k3 x1 x2 x7 x8 b1000003=some r→RS Tryz.f149 xBx 7 (xHM x1 x2 x7 x8 b1000003) (xAd r):=fun x1 x2 x7 x8 b1000003 r h =>
 cE h (fun h0 h=>dS h xDz (xQ1 x1 x2 x7 x8 b1000003) (oc h0 on)) fun h0 h =>
 cE h (fun h1 h=>dS h xDz (xQ2 x1 x2 x7 x8 b1000003) (oc2 h0 h1 on)) fun h1 h =>
 bE h fun r1 h2 h=>iE h fun h3 h=>iE h fun h4 h=>cE h (fun h5 h=>tS xDz (xPZ x1 x2 x7 x8 b1000003 r1) (oc6 h0 h1 (xAg h2) h3 h4 h5 on) (xRt hk3 _ _ _ _ _ _ _ _ h)) fun h5 h =>
 tS xDz (xP0 x1 x2 x7 x8 b1000003 r1) (oc6 h0 h1 (xAg h2) h3 h4 h5 on) (xK1 hk3 _ _ _ _ _ _ h)
theorem xS9{N:Nat}{k3:Int→Int→Int→Int→(List Org)→Option (Bool × (List Org))}(hk3:∀z0 z1 z2 z3 z4 r,k3 z0 z1 z2 z3 z4=some r→RS Tryz.f149 xBx 3 (xFa z0 z1 z2 z3 z4) (xAd r)):∀n x1 x2 x7 x8 b1000003 r,xAQ N k3 n x1 x2 x7 x8 b1000003=some r→RS Tryz.f149 xBx 5 (xIt x1 x2 x7 x8 b1000003) (xAd r):=by
 intro n
 induction n with
 |zero=>exact fun _ _ _ _ _ _ h=>nE h
 |succ n ih =>
  exact fun x1 x2 x7 x8 b1000003 r h =>
   cE h (fun h0 h=>bE h fun r1 h1 h=>cE h (fun h2 h=>tS xDz (xPW x1 x2 x7 x8 b1000003 r1) (oc3 h0 (xAh h1) h2 on) (ih _ _ _ _ _ _ h)) fun h2 h =>
   tS xDz (xPX x1 x2 x7 x8 b1000003 r1) (oc3 h0 (xAh h1) h2 on) (xOj hk3 _ _ _ _ _ _ h)) fun h0 h =>
   tS xDz (xPY x1 x2 x7 x8 b1000003) (oc2 h0 rfl on) (xOj hk3 _ _ _ _ _ _ h)
theorem xS8{N:Nat}:∀n x1 x2 x7 x8 b1000003 r,xAE N n x1 x2 x7 x8 b1000003=some r→RS Tryz.f149 xBx 3 (xFa x1 x2 x7 x8 b1000003) (xAd r):=by
 intro n
 induction n with
 |zero=>exact fun _ _ _ _ _ _ h=>nE h
 |succ n ih =>
  exact fun x1 x2 x7 x8 b1000003 r h =>
   cE h (fun h0 h=>tS xDz (xPU x1 x2 x7 x8 b1000003) (oc h0 on) (xS9 ih _ _ _ _ _ _ _ h)) fun h0 h =>
   dS h xDz (xPV x1 x2 x7 x8 b1000003) (oc h0 on)
theorem xTa{N:Nat}:∀a0 a1 a2 r,xBg N a0 a1 a2=some r→RE Tryz.f149 xBx (xA2 a0 a1 a2) (xAd r):=fun a0 a1 a2 r h =>
 tE xDz (xP1 a0 a1 a2) on (xS8 _ _ _ _ _ _ _ h)
theorem xC4{N:Nat}{a0:Int}{a1:Int}{a2:List Org}{r:Bool × (List Org)}(h:xBg N  a0 a1 a2=some r):AbC 149 (xA2 a0 a1 a2) (xAd r) :=
 AbsCalls.of_reach xDz rfl rfl rfl (Nat.le_of_ble_eq_true rfl) (xTa a0 a1 a2 r h)
noncomputable def xLp:Info:= { body:=(Tryz.f184.body).getD .skip,nt:=24,results:= [.tmp 8, .tmp 9],keep:= [0,2,4,6,8,16,18,28,2000008,7,9,2000009],live:= [],modes:= [],ext:= [3,1000004] }
theorem xLU:FnOk Tryz.prog 184 Tryz.f184 xLp:=⟨Tryz.func184,by kernel_rfl,by kernel_rfl,by kernel_rfl,by kernel_rfl⟩
def xPv(a0 a1 a2:Int)(a3:List Org)(r1:Bool × (List Org)):rE xLp (xBi a0 a1 a2 a3) [Y] [xAc r1]=dn (xAI (a1,a0,(W (a2+1)),r1.2)) [xKA a1 a0 a3 r1,iY r1.1]:=by kernel_rfl
def xPw(a0 a1 a2:Int)(a3:List Org)(r1:Bool × (List Org)):rE xLp (xBi a0 a1 a2 a3) [F] [xAc r1]=dn (xAI (a0,a1,a2,r1.2)) [xKA a1 a0 a3 r1,iN r1.1]:=by kernel_rfl
theorem xRs{N:Nat}:∀a0 a1 a2 a3 r,xBC N a0 a1 a2 a3=some r→RE Tryz.f184 xLp (xBi a0 a1 a2 a3) (xAI r):=fun a0 a1 a2 a3 r h =>
 bE h fun r1 h0 h=>cE h (fun h1 h=>dE h xLU (xPv a0 a1 a2 a3 r1) (oc2 (xAh h0) h1 on)) fun h1 h =>
 dE h xLU (xPw a0 a1 a2 a3 r1) (oc2 (xAh h0) h1 on)
theorem xDs{N:Nat}{a0:Int}{a1:Int}{a2:Int}{a3:List Org}{r:Int × Int × Int × (List Org)}(h:xBC N  a0 a1 a2 a3=some r):AbC 184 (xBi a0 a1 a2 a3) (xAI r) :=
 AbsCalls.of_reach xLU rfl rfl rfl (Nat.le_of_ble_eq_true rfl) (xRs a0 a1 a2 a3 r h)
noncomputable def xML:Info:= { body:=(Tryz.f170.body).getD .skip,nt:=36,results:= [.tmp 10],keep:= [0,2,4,6,8,10,20,2000010,9,11,2000011],live:= [],modes:= [(1, [(5, .take,false)]),(2, [(5, .take,false)]),(3, [(5, .take,false)])],ext:= [4,1000005] }
theorem xOl:FnOk Tryz.prog 170 Tryz.f170 xML:=⟨Tryz.func170,by kernel_rfl,by kernel_rfl,by kernel_rfl,by kernel_rfl⟩
def xPu(a0 a1 a2 a3:Int)(a4:List Org)(r1:Int × Int × Int × (List Org))(r2:Int × Int × Int × (List Org))(r3:Int × Int × Int × (List Org)):rE xML (xAZ a0 a1 a2 a3 a4) [] [cl (xAI r1),cl (xAI r2),cl (xAI r3)]=dn (xAr (r3.2.1,r3.2.2.1,r3.2.2.2)) [AbC 184 (xBi a0 a1 a3 a4) (xAI r1),AbC 184 (xBi r1.2.1 a2 r1.2.2.1 r1.2.2.2) (xAI r2),AbC 184 (xBi r1.1 r2.1 r2.2.2.1 r2.2.2.2) (xAI r3)]:=by kernel_rfl
theorem xRr{N:Nat}:∀a0 a1 a2 a3 a4 r,xBB N a0 a1 a2 a3 a4=some r→RE Tryz.f170 xML (xAZ a0 a1 a2 a3 a4) (xAr r):=fun a0 a1 a2 a3 a4 r h =>
 bE h fun r1 h0 h=>bE h fun r2 h1 h=>bE h fun r3 h2 h=>dE h xOl (xPu a0 a1 a2 a3 a4 r1 r2 r3) (oc3 (xDs h0) (xDs h1) (xDs h2) on)
theorem xBh{N:Nat}{a0:Int}{a1:Int}{a2:Int}{a3:Int}{a4:List Org}{r:Int × Int × (List Org)}(h:xBB N  a0 a1 a2 a3 a4=some r):AbC 170 (xAZ a0 a1 a2 a3 a4) (xAr r) :=
 AbsCalls.of_reach xOl rfl rfl rfl (Nat.le_of_ble_eq_true rfl) (xRr a0 a1 a2 a3 a4 r h)
noncomputable def xMK:Info:= { body:=(Tryz.f169.body).getD .skip,nt:=15,results:= [.tmp 6],keep:= [0,2,4,6,12,2000006,5,7,2000007],live:= [],modes:= [],ext:= [2,1000003] }
theorem xOk:FnOk Tryz.prog 169 Tryz.f169 xMK:=⟨Tryz.func169,by kernel_rfl,by kernel_rfl,by kernel_rfl,by kernel_rfl⟩
def xPt(a0 a1:Int)(a2:List Org)(r1:Int × Int × (List Org)):rE xMK (xA1 a0 a1 a2) [] [cl (xAr r1)]=dn (xAk (r1.1,r1.2.1,r1.2.2)) [AbC 170 (xAZ (W (a0 - 1)) a0 (W (a0+1)) a1 a2) (xAr r1)]:=by kernel_rfl
theorem xRq{N:Nat}:∀a0 a1 a2 r,xAY N a0 a1 a2=some r→RE Tryz.f169 xMK (xA1 a0 a1 a2) (xAk r):=fun a0 a1 a2 r h =>
 bE h fun r1 h0 h=>dE h xOk (xPt a0 a1 a2 r1) (oc (xBh h0) on)
theorem xAw{N:Nat}{a0:Int}{a1:Int}{a2:List Org}{r:Int × Int × (List Org)}(h:xAY N  a0 a1 a2=some r):AbC 169 (xA1 a0 a1 a2) (xAk r) :=
 AbsCalls.of_reach xOk rfl rfl rfl (Nat.le_of_ble_eq_true rfl) (xRq a0 a1 a2 r h)
noncomputable def xHp:Info:= { body:=(Tryz.f147.body).getD .skip,nt:=57,results:= [.tmp 6, .tmp 7],keep:= [0,2,4,6,12,14,16,18,20,22,24,64,68,98,102,108,2000006,7,19,2000007],live:= [],modes:= [],ext:= [1000003] }
theorem xGT:FnOk Tryz.prog 147 Tryz.f147 xHp:=⟨Tryz.func147,by kernel_rfl,by kernel_rfl,by kernel_rfl,by kernel_rfl⟩
abbrev xOS(v0 v1:Int):=W (Int.tdiv (W (v0 - v1)) 4)
abbrev xTT(v0 v1:Int)(v2:List Org)(v3:Int × Int × (List Org)):Prop:=AbC 169 (xA1 (W (v0+(W ((xOS v1 v0)*1)))) 0 v2) (xAk v3)
abbrev xTU(v0 v1:Int)(v2 v3:Int × Int × (List Org)):Prop:=AbC 169 (xA1 (xL8 v0 v1) v2.2.1 v2.2.2) (xAk v3)
abbrev xTV(v0 v1:Int)(v2 v3:Int × Int × (List Org)):Prop:=AbC 169 (xA1 (W (v0+(W ((xOS v1 v0)*3)))) v2.2.1 v2.2.2) (xAk v3)
abbrev xL9(v0 v1:Int):=dc ((W (v0 - v1))≥50)
def xQP(a0 a1:Int)(a2:List Org)(r1:Int × Int × (List Org))(r2:Int × Int × (List Org))(r3:Int × Int × (List Org))(r4:Int × Int × (List Org)):rE xHp (xAq a0 a1 a2) [Y,Y,Y] [cl (xAk r1),cl (xAk r2),cl (xAk r3),cl (xAr r4)]=dn (xAm (r4.1,1,r4.2.2)) [4≠(0:Int),4≠(0:Int),4≠(0:Int),xSb a1 a0,iY (xL9 a1 a0),xTT a0 a1 a2 r1,xTU a0 a1 r1 r2,xTV a0 a1 r2 r3,AbC 170 (xAZ r1.1 r2.1 r3.1 r3.2.1 r3.2.2) (xAr r4),iY (r4.2.1==0)]:=by kernel_rfl
def xQQ(a0 a1:Int)(a2:List Org)(r1:Int × Int × (List Org))(r2:Int × Int × (List Org))(r3:Int × Int × (List Org))(r4:Int × Int × (List Org)):rE xHp (xAq a0 a1 a2) [Y,Y,F,Y] [cl (xAk r1),cl (xAk r2),cl (xAk r3),cl (xAr r4)]=dn (xAm (r4.1,2,r4.2.2)) [4≠(0:Int),4≠(0:Int),4≠(0:Int),xSb a1 a0,iY (xL9 a1 a0),xTT a0 a1 a2 r1,xTU a0 a1 r1 r2,xTV a0 a1 r2 r3,AbC 170 (xAZ r1.1 r2.1 r3.1 r3.2.1 r3.2.2) (xAr r4),iN (r4.2.1==0),iY (r4.2.1==12)]:=by kernel_rfl
def xQR(a0 a1:Int)(a2:List Org)(r1:Int × Int × (List Org))(r2:Int × Int × (List Org))(r3:Int × Int × (List Org))(r4:Int × Int × (List Org)):rE xHp (xAq a0 a1 a2) [Y,Y,F,F] [cl (xAk r1),cl (xAk r2),cl (xAk r3),cl (xAr r4)]=dn (xAm (r4.1,0,r4.2.2)) [4≠(0:Int),4≠(0:Int),4≠(0:Int),xSb a1 a0,iY (xL9 a1 a0),xTT a0 a1 a2 r1,xTU a0 a1 r1 r2,xTV a0 a1 r2 r3,AbC 170 (xAZ r1.1 r2.1 r3.1 r3.2.1 r3.2.2) (xAr r4),iN (r4.2.1==0),iN (r4.2.1==12)]:=by kernel_rfl
abbrev xTY(v0 v1:Int)(v2:List Org)(v3:Int × Int × (List Org)):Prop:=AbC 170 (xAZ (W (v0+(W ((xOS v1 v0)*1)))) (xL8 v0 v1) (W (v0+(W ((xOS v1 v0)*3)))) 0 v2) (xAr v3)
def xQS(a0 a1:Int)(a2:List Org)(r1:Int × Int × (List Org)):rE xHp (xAq a0 a1 a2) [Y,F,Y] [cl (xAr r1)]=dn (xAm (r1.1,1,r1.2.2)) [4≠(0:Int),4≠(0:Int),4≠(0:Int),xSb a1 a0,iN (xL9 a1 a0),xTY a0 a1 a2 r1,iY (r1.2.1==0)]:=by kernel_rfl
def xQT(a0 a1:Int)(a2:List Org)(r1:Int × Int × (List Org)):rE xHp (xAq a0 a1 a2) [Y,F,F,Y] [cl (xAr r1)]=dn (xAm (r1.1,2,r1.2.2)) [4≠(0:Int),4≠(0:Int),4≠(0:Int),xSb a1 a0,iN (xL9 a1 a0),xTY a0 a1 a2 r1,iN (r1.2.1==0),iY (r1.2.1==12)]:=by kernel_rfl
def xQU(a0 a1:Int)(a2:List Org)(r1:Int × Int × (List Org)):rE xHp (xAq a0 a1 a2) [Y,F,F,F] [cl (xAr r1)]=dn (xAm (r1.1,0,r1.2.2)) [4≠(0:Int),4≠(0:Int),4≠(0:Int),xSb a1 a0,iN (xL9 a1 a0),xTY a0 a1 a2 r1,iN (r1.2.1==0),iN (r1.2.1==12)]:=by kernel_rfl
def xQV(a0 a1:Int)(a2:List Org):rE xHp (xAq a0 a1 a2) [F,Y] []=dn (xAm ((xL8 a0 a1),1,a2)) [4≠(0:Int),4≠(0:Int),4≠(0:Int),iN (dc ((W (a1 - a0))≥8)),iY ((0:Int)==0)]:=by kernel_rfl
def xQW(a0 a1:Int)(a2:List Org):rE xHp (xAq a0 a1 a2) [F,F,Y] []=dn (xAm ((xL8 a0 a1),2,a2)) [4≠(0:Int),4≠(0:Int),4≠(0:Int),iN (dc ((W (a1 - a0))≥8)),iN ((0:Int)==0),iY ((0:Int)==12)]:=by kernel_rfl
def xQX(a0 a1:Int)(a2:List Org):rE xHp (xAq a0 a1 a2) [F,F,F] []=dn (xAm ((xL8 a0 a1),0,a2)) [4≠(0:Int),4≠(0:Int),4≠(0:Int),iN (dc ((W (a1 - a0))≥8)),iN ((0:Int)==0),iN ((0:Int)==12)]:=by kernel_rfl
theorem xS5{N:Nat}:∀a0 a1 a2 r,xBT N a0 a1 a2=some r→RE Tryz.f147 xHp (xAq a0 a1 a2) (xAm r):=fun a0 a1 a2 r h =>
 cE h (fun h3 h=>cE h (fun h4 h=>bE h fun r1 h5 h=>bE h fun r2 h6 h=>bE h fun r3 h7 h=>bE h fun r4 h8 h=>cE h (fun h9 h=>dE h xGT (xQP a0 a1 a2 r1 r2 r3 r4) (oc10 (by decide) (by decide) (by decide) h3 h4 (xAw h5) (xAw h6) (xAw h7) (xBh h8) h9 on)) fun h9 h =>
 cE h (fun h10 h=>dE h xGT (xQQ a0 a1 a2 r1 r2 r3 r4) (oc11 (by decide) (by decide) (by decide) h3 h4 (xAw h5) (xAw h6) (xAw h7) (xBh h8) h9 h10 on)) fun h10 h =>
 dE h xGT (xQR a0 a1 a2 r1 r2 r3 r4) (oc11 (by decide) (by decide) (by decide) h3 h4 (xAw h5) (xAw h6) (xAw h7) (xBh h8) h9 h10 on)) fun h4 h =>
 bE h fun r1 h5 h=>cE h (fun h6 h=>dE h xGT (xQS a0 a1 a2 r1) (oc7 (by decide) (by decide) (by decide) h3 h4 (xBh h5) h6 on)) fun h6 h =>
 cE h (fun h7 h=>dE h xGT (xQT a0 a1 a2 r1) (oc8 (by decide) (by decide) (by decide) h3 h4 (xBh h5) h6 h7 on)) fun h7 h =>
 dE h xGT (xQU a0 a1 a2 r1) (oc8 (by decide) (by decide) (by decide) h3 h4 (xBh h5) h6 h7 on)) fun h3 h =>
 cE h (fun h4 h=>dE h xGT (xQV a0 a1 a2) (oc5 (by decide) (by decide) (by decide) h3 h4 on)) fun h4 h =>
 cE h (fun h5 h=>dE h xGT (xQW a0 a1 a2) (oc6 (by decide) (by decide) (by decide) h3 h4 h5 on)) fun h5 h =>
 dE h xGT (xQX a0 a1 a2) (oc6 (by decide) (by decide) (by decide) h3 h4 h5 on)
theorem xD0{N:Nat}{a0:Int}{a1:Int}{a2:List Org}{r:Int × Int × (List Org)}(h:xBT N  a0 a1 a2=some r):AbC 147 (xAq a0 a1 a2) (xAm r) :=
 AbsCalls.of_reach xGT rfl rfl rfl (Nat.le_of_ble_eq_true rfl) (xS5 a0 a1 a2 r h)
noncomputable def xEL:Info:= { body:=(Tryz.f166.body).getD .skip,nt:=55,results:= [],keep:= [0,2,4,6,8,16,18,32,64,88,2000008,9,2000009],live:= [(2, [4,6,8,16,2000008,9,2000009])],modes:= [(4, [(4, .take,false)])],ext:= [1000004] }
theorem xGE:FnOk Tryz.prog 166 Tryz.f166 xEL:=⟨Tryz.func166,by kernel_rfl,by kernel_rfl,by kernel_rfl,by kernel_rfl⟩
def xEp(x2 x3 x8:Int)(b1000004:List Org):St:= [(4, .v false [.int .i64 x2]),(6, .v false [.int .i64 x3]),(8, .v false [.ptr 4 0]),(16, .v false [.int .i64 x8]),(9, .v true [.clo 64 [1000004], .swp 141 0 (.pointer (some ⟨0,80,none⟩)) 1000004]),(2000009, .v true [.sl (.lnt 0) .org b1000004])]
abbrev xOT(v0:Int):=W ((W (2*v0))+1)
def xPl(x2 x3 x8:Int)(b1000004:List Org):rS 2 xEL (xEp x2 x3 x8 b1000004) [Y] []=dn (xAu b1000004) [iY (dc (((xOT x8):Int)≥x2))]:=by kernel_rfl
abbrev xOp(v0 v1:Int):Prop:=iN (dc (((xOT v0):Int)≥v1))
abbrev xRO(v0 v1:Int):=dc (((W ((W ((W (2*v0))+1))+1)):Int)<v1)
abbrev xSu(v0 v1:Int):Prop:=iY (xRO v0 v1)
abbrev xKv(v0 v1:Int):=W (v0+(W ((W (2*v1))+1)))
abbrev xSv(v0 v1:Int)(v2:List Org)(v3:Bool × (List Org)):Prop:=AbC 64 (xA0 (xKv v0 v1) (W ((xKv v0 v1)+1)) v2) (xAc v3)
abbrev xOU(v0:Int):=W ((W ((W (2*v0))+1))+1)
def xPm(x2 x3 x8:Int)(b1000004:List Org)(r1:Bool × (List Org))(r2:Bool × (List Org)):rS 2 xEL (xEp x2 x3 x8 b1000004) [F,Y,Y,Y] [xAc r1,xAc r2]=dn (xAu r2.2) [xOp x8 x2,xSu x8 x2,xSv x3 x8 b1000004 r1,iY r1.1,AbC 64 (xA0 (W (x3+x8)) (W (x3+(xOU x8))) r1.2) (xAc r2),iY (!r2.1)]:=by kernel_rfl
def xPn(x2 x3 x8:Int)(b1000004:List Org)(r1:Bool × (List Org))(r2:Bool × (List Org))(r3:(List Org)):rS 2 xEL (xEp x2 x3 x8 b1000004) [F,Y,Y,F] [xAc r1,xAc r2,xAa r3]=st 2 xEL (xEp x2 x3 (xOU x8) r3) [xOp x8 x2,xSu x8 x2,xSv x3 x8 b1000004 r1,iY r1.1,AbC 64 (xA0 (W (x3+x8)) (W (x3+(xOU x8))) r1.2) (xAc r2),iN (!r2.1),AbC 141 (xAn (W (x3+x8)) (W (x3+(xOU x8))) r2.2) (xAa r3),2≤Ln r2.2,Ln r3=Ln r2.2]:=by kernel_rfl
def xPo(x2 x3 x8:Int)(b1000004:List Org)(r1:Bool × (List Org))(r2:Bool × (List Org)):rS 2 xEL (xEp x2 x3 x8 b1000004) [F,Y,F,Y] [xAc r1,xAc r2]=dn (xAu r2.2) [xOp x8 x2,xSu x8 x2,xSv x3 x8 b1000004 r1,iN r1.1,AbC 64 (xA0 (W (x3+x8)) (xKv x3 x8) r1.2) (xAc r2),iY (!r2.1)]:=by kernel_rfl
def xPp(x2 x3 x8:Int)(b1000004:List Org)(r1:Bool × (List Org))(r2:Bool × (List Org))(r3:(List Org)):rS 2 xEL (xEp x2 x3 x8 b1000004) [F,Y,F,F] [xAc r1,xAc r2,xAa r3]=st 2 xEL (xEp x2 x3 (xOT x8) r3) [xOp x8 x2,xSu x8 x2,xSv x3 x8 b1000004 r1,iN r1.1,AbC 64 (xA0 (W (x3+x8)) (xKv x3 x8) r1.2) (xAc r2),iN (!r2.1),AbC 141 (xAn (W (x3+x8)) (xKv x3 x8) r2.2) (xAa r3),2≤Ln r2.2,Ln r3=Ln r2.2]:=by kernel_rfl
def xPq(x2 x3 x8:Int)(b1000004:List Org)(r1:Bool × (List Org)):rS 2 xEL (xEp x2 x3 x8 b1000004) [F,F,F,Y] [xAc r1]=dn (xAu r1.2) [xOp x8 x2,iN (xRO x8 x2),iN false,AbC 64 (xA0 (W (x3+x8)) (xKv x3 x8) b1000004) (xAc r1),iY (!r1.1)]:=by kernel_rfl
def xPr(x2 x3 x8:Int)(b1000004:List Org)(r1:Bool × (List Org))(r2:(List Org)):rS 2 xEL (xEp x2 x3 x8 b1000004) [F,F,F,F] [xAc r1,xAa r2]=st 2 xEL (xEp x2 x3 (xOT x8) r2) [xOp x8 x2,iN (xRO x8 x2),iN false,AbC 64 (xA0 (W (x3+x8)) (xKv x3 x8) b1000004) (xAc r1),iN (!r1.1),AbC 141 (xAn (W (x3+x8)) (xKv x3 x8) r1.2) (xAa r2),2≤Ln r1.2,Ln r2=Ln r1.2]:=by kernel_rfl
def xPs(a0 a1 a2:Int)(a3:List Org):rE xEL (xBX a0 a1 a2 a3) [] []=st 2 xEL (xEp a1 a2 a0 a3) []:=by kernel_rfl
theorem xRo{N:Nat}:∀n x2 x3 x8 b1000004 r,xAW N n x2 x3 x8 b1000004=some r→RS Tryz.f166 xEL 2 (xEp x2 x3 x8 b1000004) (xAu r):=by
 intro n
 induction n with
 |zero=>exact fun _ _ _ _ _ h=>nE h
 |succ n ih =>
  exact fun x2 x3 x8 b1000004 r h =>
   cE h (fun h0 h=>dS h xGE (xPl x2 x3 x8 b1000004) (oc h0 on)) fun h0 h =>
   cE h (fun h1 h=>bE h fun r1 h2 h=>cE h (fun h3 h=>bE h fun r2 h4 h=>cE h (fun h5 h=>dS h xGE (xPm x2 x3 x8 b1000004 r1 r2) (oc6 h0 h1 (xAh h2) h3 (xAh h4) h5 on)) fun h5 h =>
   bE h fun r3 h6 h=>iE h fun h7 h=>iE h fun h8 h=>tS xGE (xPn x2 x3 x8 b1000004 r1 r2 r3) (oc9 h0 h1 (xAh h2) h3 (xAh h4) h5 (xAg h6) h7 h8 on) (ih _ _ _ _ _ h)) fun h3 h =>
   bE h fun r2 h4 h=>cE h (fun h5 h=>dS h xGE (xPo x2 x3 x8 b1000004 r1 r2) (oc6 h0 h1 (xAh h2) h3 (xAh h4) h5 on)) fun h5 h =>
   bE h fun r3 h6 h=>iE h fun h7 h=>iE h fun h8 h=>tS xGE (xPp x2 x3 x8 b1000004 r1 r2 r3) (oc9 h0 h1 (xAh h2) h3 (xAh h4) h5 (xAg h6) h7 h8 on) (ih _ _ _ _ _ h)) fun h1 h =>
   bE h fun r1 h3 h=>cE h (fun h4 h=>dS h xGE (xPq x2 x3 x8 b1000004 r1) (oc5 h0 h1 rfl (xAh h3) h4 on)) fun h4 h =>
   bE h fun r2 h5 h=>iE h fun h6 h=>iE h fun h7 h=>tS xGE (xPr x2 x3 x8 b1000004 r1 r2) (oc8 h0 h1 rfl (xAh h3) h4 (xAg h5) h6 h7 on) (ih _ _ _ _ _ h)
theorem xRp{N:Nat}:∀a0 a1 a2 a3 r,xBk N a0 a1 a2 a3=some r→RE Tryz.f166 xEL (xBX a0 a1 a2 a3) (xAu r):=fun a0 a1 a2 a3 r h =>
 tE xGE (xPs a0 a1 a2 a3) on (xRo _ _ _ _ _ _ h)
theorem xEv{N:Nat}{a0:Int}{a1:Int}{a2:Int}{a3:List Org}{r:(List Org)}(h:xBk N  a0 a1 a2 a3=some r):AbC 166 (xBX a0 a1 a2 a3) (xAu r) :=
 AbsCalls.of_reach xGE rfl rfl rfl (Nat.le_of_ble_eq_true rfl) (xRp a0 a1 a2 a3 r h)
noncomputable def xGD:Info:= { body:=(Tryz.f145.body).getD .skip,nt:=45,results:= [],keep:= [0,2,4,6,12,14,16,18,20,38,60,2000006,7,2000007],live:= [(5, [6,12,14,16,18,2000006,7,2000007]),(9, [6,12,14,20,2000006,7,2000007])],modes:= [(12, [(1, .take,false)])],ext:= [1000003] }
theorem xJE:FnOk Tryz.prog 145 Tryz.f145 xGD:=⟨Tryz.func145,by kernel_rfl,by kernel_rfl,by kernel_rfl,by kernel_rfl⟩
def xJz(x6 x7 x8 x9:Int)(b1000003:List Org):St:= [(6, .v false [.ptr 3 0]),(12, .v false [.int .i64 x6]),(14, .v false [.int .i64 x7]),(16, .v false [.int .i64 x8]),(18, .v false [.int .i64 x9]),(7, .v true [.clo 64 [1000003], .swp 141 0 (.pointer (some ⟨0,80,none⟩)) 1000003]),(2000007, .v true [.sl (.lnt 0) .org b1000003])]
def xJA(x6 x7 x10:Int)(b1000003:List Org):St:= [(6, .v false [.ptr 3 0]),(12, .v false [.int .i64 x6]),(14, .v false [.int .i64 x7]),(20, .v false [.int .i64 x10]),(7, .v true [.clo 64 [1000003], .swp 141 0 (.pointer (some ⟨0,80,none⟩)) 1000003]),(2000007, .v true [.sl (.lnt 0) .org b1000003])]
def xQH(x6 x7 x10:Int)(b1000003:List Org)(r1:(List Org))(r2:(List Org)):rS 9 xGD (xJA x6 x7 x10 b1000003) [Y] [xAa r1,cl (xAu r2)]=st 9 xGD (xJA x6 x7 (W (x10 - 1)) r2) [iY (dc (x10≥0)),AbC 141 (xAn x6 (W (x6+x10)) b1000003) (xAa r1),2≤Ln b1000003,Ln r1=Ln b1000003,AbC 166 (xBX x7 x10 x6 r1) (xAu r2)]:=by kernel_rfl
def xQI(x6 x7 x10:Int)(b1000003:List Org):rS 9 xGD (xJA x6 x7 x10 b1000003) [F] []=dn (xA7 b1000003) [iN (dc (x10≥0))]:=by kernel_rfl
def xQF(x6 x7 x8 x9:Int)(b1000003:List Org)(r1:(List Org)):rS 5 xGD (xJz x6 x7 x8 x9 b1000003) [Y] [cl (xAu r1)]=st 5 xGD (xJz x6 x7 x8 (W (x9 - 1)) r1) [iY (dc (x9≥0)),AbC 166 (xBX x9 x8 x6 b1000003) (xAu r1)]:=by kernel_rfl
def xQG(x6 x7 x8 x9:Int)(b1000003:List Org):rS 5 xGD (xJz x6 x7 x8 x9 b1000003) [F] []=st 9 xGD (xJA x6 x7 (W (x8 - 1)) b1000003) [iN (dc (x9≥0))]:=by kernel_rfl
def xQJ(a0 a1:Int)(a2:List Org):rE xGD (xCl a0 a1 a2) [] []=st 5 xGD (xJz a0 0 (W (a1 - a0)) (W (Int.tdiv (W ((W (a1 - a0)) - 1)) 2)) a2) [2≠(0:Int)]:=by kernel_rfl
theorem xS1{N:Nat}:∀n x6 x7 x10 b1000003 r,xBw N n x6 x7 x10 b1000003=some r→RS Tryz.f145 xGD 9 (xJA x6 x7 x10 b1000003) (xA7 r):=by
 intro n
 induction n with
 |zero=>exact fun _ _ _ _ _ h=>nE h
 |succ n ih =>
  exact fun x6 x7 x10 b1000003 r h =>
   cE h (fun h0 h=>bE h fun r1 h1 h=>iE h fun h2 h=>iE h fun h3 h=>bE h fun r2 h4 h=>tS xJE (xQH x6 x7 x10 b1000003 r1 r2) (oc5 h0 (xAg h1) h2 h3 (xEv h4) on) (ih _ _ _ _ _ h)) fun h0 h =>
   dS h xJE (xQI x6 x7 x10 b1000003) (oc h0 on)
theorem xS0{N:Nat}:∀n x6 x7 x8 x9 b1000003 r,xBv N n x6 x7 x8 x9 b1000003=some r→RS Tryz.f145 xGD 5 (xJz x6 x7 x8 x9 b1000003) (xA7 r):=by
 intro n
 induction n with
 |zero=>exact fun _ _ _ _ _ _ h=>nE h
 |succ n ih =>
  exact fun x6 x7 x8 x9 b1000003 r h =>
   cE h (fun h0 h=>bE h fun r1 h1 h=>tS xJE (xQF x6 x7 x8 x9 b1000003 r1) (oc2 h0 (xEv h1) on) (ih _ _ _ _ _ _ h)) fun h0 h =>
   tS xJE (xQG x6 x7 x8 x9 b1000003) (oc h0 on) (xS1 _ _ _ _ _ _ h)
theorem xS2{N:Nat}:∀a0 a1 a2 r,xCa N a0 a1 a2=some r→RE Tryz.f145 xGD (xCl a0 a1 a2) (xA7 r):=fun a0 a1 a2 r h =>
 tE xJE (xQJ a0 a1 a2) (oc (by decide) on) (xS0 _ _ _ _ _ _ _ h)
theorem xGR{N:Nat}{a0:Int}{a1:Int}{a2:List Org}{r:(List Org)}(h:xCa N  a0 a1 a2=some r):AbC 145 (xCl a0 a1 a2) (xA7 r) :=
 AbsCalls.of_reach xJE rfl rfl rfl (Nat.le_of_ble_eq_true rfl) (xS2 a0 a1 a2 r h)
noncomputable def xFs:Info:= { body:=(Tryz.f144.body).getD .skip,nt:=35,results:= [],keep:= [0,2,4,6,12,14,24,52,2000006,7,2000007],live:= [(2, [2,4,6,12,2000006,7,2000007]),(5, [2,4,6,12,14,2000006,7,2000007])],modes:= [(5, [(3, .take,false)])],ext:= [1000003] }
theorem xIz:FnOk Tryz.prog 144 Tryz.f144 xFs:=⟨Tryz.func144,by kernel_rfl,by kernel_rfl,by kernel_rfl,by kernel_rfl⟩
def xHH(x1 x2 x6:Int)(b1000003:List Org):St:= [(2, .v false [.int .i64 x1]),(4, .v false [.int .i64 x2]),(6, .v false [.ptr 3 0]),(12, .v false [.int .i64 x6]),(7, .v true [.clo 64 [1000003], .swp 141 0 (.pointer (some ⟨0,80,none⟩)) 1000003]),(2000007, .v true [.sl (.lnt 0) .org b1000003])]
def xIs(x1 x2 x6 x7:Int)(b1000003:List Org):St:= [(2, .v false [.int .i64 x1]),(4, .v false [.int .i64 x2]),(6, .v false [.ptr 3 0]),(12, .v false [.int .i64 x6]),(14, .v false [.int .i64 x7]),(7, .v true [.clo 64 [1000003], .swp 141 0 (.pointer (some ⟨0,80,none⟩)) 1000003]),(2000007, .v true [.sl (.lnt 0) .org b1000003])]
def xQB(x1 x2 x6 x7:Int)(b1000003:List Org)(r1:Bool × (List Org))(r2:(List Org)):rS 5 xFs (xIs x1 x2 x6 x7 b1000003) [Y,Y] [xAc r1,xAa r2]=st 5 xFs (xIs x1 x2 x6 (W (x7 - 1)) r2) [iY (dc (x7>x1)),xQx x7 b1000003 r1,iY r1.1,AbC 141 (xAn x7 (W (x7 - 1)) r1.2) (xAa r2),2≤Ln r1.2,Ln r2=Ln r1.2]:=by kernel_rfl
def xQC(x1 x2 x6 x7:Int)(b1000003:List Org)(r1:Bool × (List Org)):rS 5 xFs (xIs x1 x2 x6 x7 b1000003) [Y,F] [xAc r1]=st 2 xFs (xHH x1 x2 (W (x6+1)) r1.2) [iY (dc (x7>x1)),xQx x7 b1000003 r1,iN r1.1]:=by kernel_rfl
def xQD(x1 x2 x6 x7:Int)(b1000003:List Org):rS 5 xFs (xIs x1 x2 x6 x7 b1000003) [F,F] []=st 2 xFs (xHH x1 x2 (W (x6+1)) b1000003) [iN (dc (x7>x1)),iN false]:=by kernel_rfl
def xQz(x1 x2 x6:Int)(b1000003:List Org):rS 2 xFs (xHH x1 x2 x6 b1000003) [Y] []=st 5 xFs (xIs x1 x2 x6 x6 b1000003) [xFi x6 x2]:=by kernel_rfl
def xQA(x1 x2 x6:Int)(b1000003:List Org):rS 2 xFs (xHH x1 x2 x6 b1000003) [F] []=dn (xAJ b1000003) [xHn x6 x2]:=by kernel_rfl
def xQE(a0 a1:Int)(a2:List Org):rE xFs (xB1 a0 a1 a2) [] []=st 2 xFs (xHH a0 a1 (W (a0+1)) a2) []:=by kernel_rfl
theorem xSY{N:Nat}{k2:Int→Int→Int→(List Org)→Option ((List Org))}(hk2:∀z0 z1 z2 z3 r,k2 z0 z1 z2 z3=some r→RS Tryz.f144 xFs 2 (xHH z0 z1 z2 z3) (xAJ r)):∀n x1 x2 x6 x7 b1000003 r,xA6 N k2 n x1 x2 x6 x7 b1000003=some r→RS Tryz.f144 xFs 5 (xIs x1 x2 x6 x7 b1000003) (xAJ r):=by
 intro n
 induction n with
 |zero=>exact fun _ _ _ _ _ _ h=>nE h
 |succ n ih =>
  exact fun x1 x2 x6 x7 b1000003 r h =>
   cE h (fun h0 h=>bE h fun r1 h1 h=>cE h (fun h2 h=>bE h fun r2 h3 h=>iE h fun h4 h=>iE h fun h5 h=>tS xIz (xQB x1 x2 x6 x7 b1000003 r1 r2) (oc6 h0 (xAh h1) h2 (xAg h3) h4 h5 on) (ih _ _ _ _ _ _ h)) fun h2 h =>
   tS xIz (xQC x1 x2 x6 x7 b1000003 r1) (oc3 h0 (xAh h1) h2 on) (hk2 _ _ _ _ _ h)) fun h0 h =>
   tS xIz (xQD x1 x2 x6 x7 b1000003) (oc2 h0 rfl on) (hk2 _ _ _ _ _ h)
theorem xSX{N:Nat}:∀n x1 x2 x6 b1000003 r,xA5 N n x1 x2 x6 b1000003=some r→RS Tryz.f144 xFs 2 (xHH x1 x2 x6 b1000003) (xAJ r):=by
 intro n
 induction n with
 |zero=>exact fun _ _ _ _ _ h=>nE h
 |succ n ih =>
  exact fun x1 x2 x6 b1000003 r h =>
   cE h (fun h0 h=>tS xIz (xQz x1 x2 x6 b1000003) (oc h0 on) (xSY ih _ _ _ _ _ _ _ h)) fun h0 h =>
   dS h xIz (xQA x1 x2 x6 b1000003) (oc h0 on)
theorem xSZ{N:Nat}:∀a0 a1 a2 r,xBL N a0 a1 a2=some r→RE Tryz.f144 xFs (xB1 a0 a1 a2) (xAJ r):=fun a0 a1 a2 r h =>
 tE xIz (xQE a0 a1 a2) on (xSX _ _ _ _ _ _ h)
theorem xF6{N:Nat}{a0:Int}{a1:Int}{a2:List Org}{r:(List Org)}(h:xBL N  a0 a1 a2=some r):AbC 144 (xB1 a0 a1 a2) (xAJ r) :=
 AbsCalls.of_reach xIz rfl rfl rfl (Nat.le_of_ble_eq_true rfl) (xSZ a0 a1 a2 r h)
def xI9(q:Int→Int→Int→(List Org)→Option ((List Org))):Prop:=∀a0 a1 a2 a3 r,q a0 a1 a2 a3=some r→AbC 107 (xBd a0 a1 a2 a3) (xAi r)
noncomputable def xBN:Info:= { body:=(Tryz.f107.body).getD .skip,nt:=130,results:= [],keep:= [0,2,4,6,8,16,18,20,22,24,26,28,30,32,34,36,46,58,70,100,136,144,166,218,2000008,9,2000009],live:= [(3, [2,4,6,8,16,18,2000008,9,2000009]),(11, [2,4,6,8,16,18,20,2000008,9,2000009]),(16, [2,4,6,8,16,18,20,22,24,2000008,9,2000009]),(18, [2,4,6,8,16,18,20,22,2000008,9,2000009]),(21, [2,4,6,8,20,22,2000008,9,2000009])],modes:= [(11, [(4, .take,false)]),(16, [(1, .take,false),(2, .take,false),(4, .take,false)]),(18, [(2, .take,false)]),(20, [(0, .take,false)]),(21, [(5, .take,false)]),(22, [(0, .take,false)])],ext:= [1000004] }
theorem xDN:FnOk Tryz.prog 107 Tryz.f107 xBN:=⟨Tryz.func107,by kernel_rfl,by kernel_rfl,by kernel_rfl,by kernel_rfl⟩
def xED(x1 x2 x3:Int)(x8 x9:Bool)(b1000004:List Org):St:= [(2, .v false [.int .i64 x1]),(4, .v false [.int .i64 x2]),(6, .v false [.int .i64 x3]),(8, .v false [.ptr 4 0]),(16, .v false [.bool x8]),(18, .v false [.bool x9]),(9, .v true [.clo 64 [1000004], .swp 141 0 (.pointer (some ⟨0,80,none⟩)) 1000004]),(2000009, .v true [.sl (.lnt 0) .org b1000004])]
def xIw(x1 x2 x3:Int)(x8 x9:Bool)(x10:Int)(b1000004:List Org):St:= [(2, .v false [.int .i64 x1]),(4, .v false [.int .i64 x2]),(6, .v false [.int .i64 x3]),(8, .v false [.ptr 4 0]),(16, .v false [.bool x8]),(18, .v false [.bool x9]),(20, .v false [.int .i64 x10]),(9, .v true [.clo 64 [1000004], .swp 141 0 (.pointer (some ⟨0,80,none⟩)) 1000004]),(2000009, .v true [.sl (.lnt 0) .org b1000004])]
def xGq(x1 x2 x3:Int)(x8 x9:Bool)(x10 x11 x12:Int)(b1000004:List Org):St:= [(2, .v false [.int .i64 x1]),(4, .v false [.int .i64 x2]),(6, .v false [.int .i64 x3]),(8, .v false [.ptr 4 0]),(16, .v false [.bool x8]),(18, .v false [.bool x9]),(20, .v false [.int .i64 x10]),(22, .v false [.int .i64 x11]),(24, .v false [.int .i64 x12]),(9, .v true [.clo 64 [1000004], .swp 141 0 (.pointer (some ⟨0,80,none⟩)) 1000004]),(2000009, .v true [.sl (.lnt 0) .org b1000004])]
def xGr(x1 x2 x3:Int)(x8 x9:Bool)(x10 x11:Int)(b1000004:List Org):St:= [(2, .v false [.int .i64 x1]),(4, .v false [.int .i64 x2]),(6, .v false [.int .i64 x3]),(8, .v false [.ptr 4 0]),(16, .v false [.bool x8]),(18, .v false [.bool x9]),(20, .v false [.int .i64 x10]),(22, .v false [.int .i64 x11]),(9, .v true [.clo 64 [1000004], .swp 141 0 (.pointer (some ⟨0,80,none⟩)) 1000004]),(2000009, .v true [.sl (.lnt 0) .org b1000004])]
def xIx(x1 x2 x3 x10 x11:Int)(b1000004:List Org):St:= [(2, .v false [.int .i64 x1]),(4, .v false [.int .i64 x2]),(6, .v false [.int .i64 x3]),(8, .v false [.ptr 4 0]),(20, .v false [.int .i64 x10]),(22, .v false [.int .i64 x11]),(9, .v true [.clo 64 [1000004], .swp 141 0 (.pointer (some ⟨0,80,none⟩)) 1000004]),(2000009, .v true [.sl (.lnt 0) .org b1000004])]
def xPF(x1 x2 x3 x10 x11:Int)(b1000004:List Org)(r1:Int × Bool × (List Org))(r2:(List Org)):rS 21 xBN (xIx x1 x2 x3 x10 x11 b1000004) [Y] [cl (xAo r1),cl (xAi r2)]=st 3 xBN (xED (W (r1.1+1)) x2 x3 (dc ((W (r1.1 - x1))≥(W (Int.tdiv x10 8)))) r1.2.1 r2) [AbC 151 (xBO x1 x2 x11 b1000004) (xAo r1),8≠(0:Int),iY (dc ((W (r1.1 - x1))<(W (x2 - r1.1)))),AbC 107 (xBd x1 r1.1 x3 r1.2.2) (xAi r2)]:=by kernel_rfl
def xPG(x1 x2 x3 x10 x11:Int)(b1000004:List Org)(r1:Int × Bool × (List Org))(r2:(List Org)):rS 21 xBN (xIx x1 x2 x3 x10 x11 b1000004) [F] [cl (xAo r1),cl (xAi r2)]=st 3 xBN (xED x1 r1.1 x3 (dc ((W (x2 - r1.1))≥(W (Int.tdiv x10 8)))) r1.2.1 r2) [AbC 151 (xBO x1 x2 x11 b1000004) (xAo r1),8≠(0:Int),iN (dc ((W (r1.1 - x1))<(W (x2 - r1.1)))),AbC 107 (xBd (W (r1.1+1)) x2 x3 r1.2.2) (xAi r2)]:=by kernel_rfl
def xPC(x1 x2 x3:Int)(x8 x9:Bool)(x10 x11:Int)(b1000004:List Org)(r1:Bool × (List Org))(r2:Int × (List Org)):rS 18 xBN (xGr x1 x2 x3 x8 x9 x10 x11 b1000004) [Y,Y] [xAc r1,cl (xAx r2)]=st 3 xBN (xED r2.1 x2 x3 x8 x9 r2.2) [iY (dc (x1>0)),AbC 64 (xA0 (W (x1 - 1)) x11 b1000004) (xAc r1),iY (!r1.1),AbC 150 (xBY x1 x2 x11 r1.2) (xAx r2)]:=by kernel_rfl
def xPD(x1 x2 x3:Int)(x8 x9:Bool)(x10 x11:Int)(b1000004:List Org)(r1:Bool × (List Org)):rS 18 xBN (xGr x1 x2 x3 x8 x9 x10 x11 b1000004) [Y,F] [xAc r1]=st 21 xBN (xIx x1 x2 x3 x10 x11 r1.2) [iY (dc (x1>0)),AbC 64 (xA0 (W (x1 - 1)) x11 b1000004) (xAc r1),iN (!r1.1)]:=by kernel_rfl
def xPE(x1 x2 x3:Int)(x8 x9:Bool)(x10 x11:Int)(b1000004:List Org):rS 18 xBN (xGr x1 x2 x3 x8 x9 x10 x11 b1000004) [F,F] []=st 21 xBN (xIx x1 x2 x3 x10 x11 b1000004) [iN (dc (x1>0)),iN false]:=by kernel_rfl
def xPx(x1 x2 x3:Int)(x8 x9:Bool)(x10 x11 x12:Int)(b1000004:List Org)(r1:Bool × (List Org)):rS 16 xBN (xGq x1 x2 x3 x8 x9 x10 x11 x12 b1000004) [Y,Y,Y,Y] [cl (xAd r1)]=dn (xAi r1.2) [iY x8,iY x9,iY (x12==1),AbC 149 (xA2 x1 x2 b1000004) (xAd r1),iY r1.1]:=by kernel_rfl
def xPy(x1 x2 x3:Int)(x8 x9:Bool)(x10 x11 x12:Int)(b1000004:List Org)(r1:Bool × (List Org)):rS 16 xBN (xGq x1 x2 x3 x8 x9 x10 x11 x12 b1000004) [Y,Y,Y,F] [cl (xAd r1)]=st 18 xBN (xGr x1 x2 x3 x8 x9 x10 x11 r1.2) [iY x8,iY x9,iY (x12==1),AbC 149 (xA2 x1 x2 b1000004) (xAd r1),iN r1.1]:=by kernel_rfl
def xPz(x1 x2 x3:Int)(x8 x9:Bool)(x10 x11 x12:Int)(b1000004:List Org):rS 16 xBN (xGq x1 x2 x3 x8 x9 x10 x11 x12 b1000004) [Y,Y,F] []=st 18 xBN (xGr x1 x2 x3 x8 x9 x10 x11 b1000004) [iY x8,iY x9,iN (x12==1)]:=by kernel_rfl
def xPA(x1 x2 x3:Int)(x8 x9:Bool)(x10 x11 x12:Int)(b1000004:List Org):rS 16 xBN (xGq x1 x2 x3 x8 x9 x10 x11 x12 b1000004) [Y,F,F] []=st 18 xBN (xGr x1 x2 x3 x8 x9 x10 x11 b1000004) [iY x8,iN x9,iN false]:=by kernel_rfl
def xPB(x1 x2 x3:Int)(x8 x9:Bool)(x10 x11 x12:Int)(b1000004:List Org):rS 16 xBN (xGq x1 x2 x3 x8 x9 x10 x11 x12 b1000004) [F,F,F] []=st 18 xBN (xGr x1 x2 x3 x8 x9 x10 x11 b1000004) [iN x8,iN false,iN false]:=by kernel_rfl
def xN5(x1 x2 x3:Int)(x8 x9:Bool)(x10:Int)(b1000004:List Org)(r1:Int × Int × (List Org))(r2:(List Org)):rS 11 xBN (xIw x1 x2 x3 x8 x9 x10 b1000004) [Y] [cl (xAm r1),cl (xBc r2)]=st 16 xBN (xGq x1 x2 x3 x8 x9 x10 (W ((W (x2 - 1)) - (W (r1.1 - x1)))) 1 r2) [AbC 147 (xAq x1 x2 b1000004) (xAm r1),iY (r1.2.1==2),AbC 148 (xB7 x1 x2 r1.2.2) (xBc r2)]:=by kernel_rfl
def xN6(x1 x2 x3:Int)(x8 x9:Bool)(x10:Int)(b1000004:List Org)(r1:Int × Int × (List Org)):rS 11 xBN (xIw x1 x2 x3 x8 x9 x10 b1000004) [F] [cl (xAm r1)]=st 16 xBN (xGq x1 x2 x3 x8 x9 x10 r1.1 r1.2.1 r1.2.2) [AbC 147 (xAq x1 x2 b1000004) (xAm r1),iN (r1.2.1==2)]:=by kernel_rfl
def xPH(x1 x2 x3:Int)(x8 x9:Bool)(b1000004:List Org)(r1:(List Org)):rS 3 xBN (xED x1 x2 x3 x8 x9 b1000004) [Y] [cl (xAJ r1)]=dn (xAi r1) [iY (dc ((W (x2 - x1))≤12)),AbC 144 (xB1 x1 x2 b1000004) (xAJ r1)]:=by kernel_rfl
def xPI(x1 x2 x3:Int)(x8 x9:Bool)(b1000004:List Org)(r1:(List Org)):rS 3 xBN (xED x1 x2 x3 x8 x9 b1000004) [F,Y] [cl (xA7 r1)]=dn (xAi r1) [iN (dc ((W (x2 - x1))≤12)),iY (x3==0),AbC 145 (xCl x1 x2 b1000004) (xA7 r1)]:=by kernel_rfl
abbrev xJb(v0:Int):Prop:=iN (v0==0)
def xPJ(x1 x2 x3:Int)(x8 x9:Bool)(b1000004:List Org)(r1:(List Org)):rS 3 xBN (xED x1 x2 x3 x8 x9 b1000004) [F,F,Y] [cl (xAV r1)]=st 11 xBN (xIw x1 x2 (W (x3 - 1)) x8 x9 (W (x2 - x1)) r1) [iN (dc ((W (x2 - x1))≤12)),xJb x3,iY (!x8),AbC 146 (xBA x1 x2 b1000004) (xAV r1)]:=by kernel_rfl
def xPK(x1 x2 x3:Int)(x8 x9:Bool)(b1000004:List Org):rS 3 xBN (xED x1 x2 x3 x8 x9 b1000004) [F,F,F] []=st 11 xBN (xIw x1 x2 x3 x8 x9 (W (x2 - x1)) b1000004) [iN (dc ((W (x2 - x1))≤12)),xJb x3,iN (!x8)]:=by kernel_rfl
def xPL(a0 a1 a2:Int)(a3:List Org):rE xBN (xBd a0 a1 a2 a3) [] []=st 3 xBN (xED a0 a1 a2 true true a3) []:=by kernel_rfl
theorem xMV{N q0}(g0:xI9 q0){k3:Int→Int→Int→Bool→Bool→(List Org)→Option ((List Org))}(hk3:∀z0 z1 z2 z3 z4 z5 r,k3 z0 z1 z2 z3 z4 z5=some r→RS Tryz.f107 xBN 3 (xED z0 z1 z2 z3 z4 z5) (xAi r)):∀x1 x2 x3 x10 x11 b1000004 r,xBW N q0 k3 x1 x2 x3 x10 x11 b1000004=some r→RS Tryz.f107 xBN 21 (xIx x1 x2 x3 x10 x11 b1000004) (xAi r):=fun x1 x2 x3 x10 x11 b1000004 r h =>
 bE h fun r1 h0 h=>cE h (fun h2 h=>bE h fun r2 h3 h=>tS xDN (xPF x1 x2 x3 x10 x11 b1000004 r1 r2) (oc4 (xEm h0) (by decide) h2 (g0 _ _ _ _ _ h3) on) (hk3 _ _ _ _ _ _ _ h)) fun h2 h =>
 bE h fun r2 h3 h=>tS xDN (xPG x1 x2 x3 x10 x11 b1000004 r1 r2) (oc4 (xEm h0) (by decide) h2 (g0 _ _ _ _ _ h3) on) (hk3 _ _ _ _ _ _ _ h)
theorem xJU{N q0}(g0:xI9 q0){k3:Int→Int→Int→Bool→Bool→(List Org)→Option ((List Org))}(hk3:∀z0 z1 z2 z3 z4 z5 r,k3 z0 z1 z2 z3 z4 z5=some r→RS Tryz.f107 xBN 3 (xED z0 z1 z2 z3 z4 z5) (xAi r)):∀x1 x2 x3 x8 x9 x10 x11 b1000004 r,xA8 N q0 k3 x1 x2 x3 x8 x9 x10 x11 b1000004=some r→RS Tryz.f107 xBN 18 (xGr x1 x2 x3 x8 x9 x10 x11 b1000004) (xAi r):=fun x1 x2 x3 x8 x9 x10 x11 b1000004 r h =>
 cE h (fun h0 h=>bE h fun r1 h1 h=>cE h (fun h2 h=>bE h fun r2 h3 h=>tS xDN (xPC x1 x2 x3 x8 x9 x10 x11 b1000004 r1 r2) (oc4 h0 (xAh h1) h2 (xFS h3) on) (hk3 _ _ _ _ _ _ _ h)) fun h2 h =>
 tS xDN (xPD x1 x2 x3 x8 x9 x10 x11 b1000004 r1) (oc3 h0 (xAh h1) h2 on) (xMV g0 hk3 _ _ _ _ _ _ _ h)) fun h0 h =>
 tS xDN (xPE x1 x2 x3 x8 x9 x10 x11 b1000004) (oc2 h0 rfl on) (xMV g0 hk3 _ _ _ _ _ _ _ h)
theorem xMU{N q0}(g0:xI9 q0){k3:Int→Int→Int→Bool→Bool→(List Org)→Option ((List Org))}(hk3:∀z0 z1 z2 z3 z4 z5 r,k3 z0 z1 z2 z3 z4 z5=some r→RS Tryz.f107 xBN 3 (xED z0 z1 z2 z3 z4 z5) (xAi r)):∀x1 x2 x3 x8 x9 x10 x11 x12 b1000004 r,xBV N q0 k3 x1 x2 x3 x8 x9 x10 x11 x12 b1000004=some r→RS Tryz.f107 xBN 16 (xGq x1 x2 x3 x8 x9 x10 x11 x12 b1000004) (xAi r):=fun x1 x2 x3 x8 x9 x10 x11 x12 b1000004 r h =>
 cE h (fun h0 h=>cE h (fun h1 h=>cE h (fun h2 h=>bE h fun r1 h3 h=>cE h (fun h4 h=>dS h xDN (xPx x1 x2 x3 x8 x9 x10 x11 x12 b1000004 r1) (oc5 h0 h1 h2 (xC4 h3) h4 on)) fun h4 h =>
 tS xDN (xPy x1 x2 x3 x8 x9 x10 x11 x12 b1000004 r1) (oc5 h0 h1 h2 (xC4 h3) h4 on) (xJU g0 hk3 _ _ _ _ _ _ _ _ _ h)) fun h2 h =>
 tS xDN (xPz x1 x2 x3 x8 x9 x10 x11 x12 b1000004) (oc3 h0 h1 h2 on) (xJU g0 hk3 _ _ _ _ _ _ _ _ _ h)) fun h1 h =>
 tS xDN (xPA x1 x2 x3 x8 x9 x10 x11 x12 b1000004) (oc3 h0 h1 rfl on) (xJU g0 hk3 _ _ _ _ _ _ _ _ _ h)) fun h0 h =>
 tS xDN (xPB x1 x2 x3 x8 x9 x10 x11 x12 b1000004) (oc3 h0 rfl rfl on) (xJU g0 hk3 _ _ _ _ _ _ _ _ _ h)
theorem xMT{N q0}(g0:xI9 q0){k3:Int→Int→Int→Bool→Bool→(List Org)→Option ((List Org))}(hk3:∀z0 z1 z2 z3 z4 z5 r,k3 z0 z1 z2 z3 z4 z5=some r→RS Tryz.f107 xBN 3 (xED z0 z1 z2 z3 z4 z5) (xAi r)):∀x1 x2 x3 x8 x9 x10 b1000004 r,xBU N q0 k3 x1 x2 x3 x8 x9 x10 b1000004=some r→RS Tryz.f107 xBN 11 (xIw x1 x2 x3 x8 x9 x10 b1000004) (xAi r):=fun x1 x2 x3 x8 x9 x10 b1000004 r h =>
 bE h fun r1 h0 h=>cE h (fun h1 h=>bE h fun r2 h2 h=>tS xDN (xN5 x1 x2 x3 x8 x9 x10 b1000004 r1 r2) (oc3 (xD0 h0) h1 (xGl h2) on) (xMU g0 hk3 _ _ _ _ _ _ _ _ _ _ h)) fun h1 h =>
 tS xDN (xN6 x1 x2 x3 x8 x9 x10 b1000004 r1) (oc2 (xD0 h0) h1 on) (xMU g0 hk3 _ _ _ _ _ _ _ _ _ _ h)
theorem xSV{N q0}(g0:xI9 q0):∀n x1 x2 x3 x8 x9 b1000004 r,xBe N q0 n x1 x2 x3 x8 x9 b1000004=some r→RS Tryz.f107 xBN 3 (xED x1 x2 x3 x8 x9 b1000004) (xAi r):=by
 intro n
 induction n with
 |zero=>exact fun _ _ _ _ _ _ _ h=>nE h
 |succ n ih =>
  exact fun x1 x2 x3 x8 x9 b1000004 r h =>
   cE h (fun h0 h=>bE h fun r1 h1 h=>dS h xDN (xPH x1 x2 x3 x8 x9 b1000004 r1) (oc2 h0 (xF6 h1) on)) fun h0 h =>
   cE h (fun h1 h=>bE h fun r1 h2 h=>dS h xDN (xPI x1 x2 x3 x8 x9 b1000004 r1) (oc3 h0 h1 (xGR h2) on)) fun h1 h =>
   cE h (fun h2 h=>bE h fun r1 h3 h=>tS xDN (xPJ x1 x2 x3 x8 x9 b1000004 r1) (oc4 h0 h1 h2 (xF5 h3) on) (xMT g0 ih _ _ _ _ _ _ _ _ h)) fun h2 h =>
   tS xDN (xPK x1 x2 x3 x8 x9 b1000004) (oc3 h0 h1 h2 on) (xMT g0 ih _ _ _ _ _ _ _ _ h)
theorem xSW{N q0}(g0:xI9 q0):∀a0 a1 a2 a3 r,xC1 N q0 a0 a1 a2 a3=some r→RE Tryz.f107 xBN (xBd a0 a1 a2 a3) (xAi r):=fun a0 a1 a2 a3 r h =>
 tE xDN (xPL a0 a1 a2 a3) on (xSV g0 _ _ _ _ _ _ _ _ h)
theorem xGk{N q0}(g0:xI9 q0){a0}{a1}{a2}{a3}{r}(h:xC1 N q0 a0 a1 a2 a3=some r):AbC 107 (xBd a0 a1 a2 a3) (xAi r) :=
 AbsCalls.of_reach xDN rfl rfl rfl (Nat.le_of_ble_eq_true rfl) (xSW g0 a0 a1 a2 a3 r h)
theorem xD1{N:Nat}:∀d,xI9 (xA9 N d)
 |0=>fun _ _ _ _ _ h=>nE h
 |d+1=>fun _ _ _ _ _ h=>xGk (N:=N) (xD1 d) h
theorem sort_pdqsort_func_cUnionOrigins_1_ok{N:Nat}{a0:Int}{a1:Int}{a2:Int}{a3:List Org}{r:(List Org)}(h:xDC N a0 a1 a2 a3=some r):AbC 107 (xBd a0 a1 a2 a3) (xAi r):=xD1 N _ _ _ _ r h
end Go.Ab.T
end
section
namespace Go.Ab
def Big(p:Nat→Prop):Prop:=∃k,∀N,k≤N→p N
def Big2(p:Nat→Nat→Prop):Prop:=∃k,∀N n,k≤N→k≤n→p N n
theorem Big.imp{p q:Nat→Prop}(h:Big p)(f:∀N,p N→q N):Big q:=h.elim fun k hk=>⟨k,fun N hN=>f N (hk N hN)⟩
theorem Big2.imp{p q:Nat→Nat→Prop}(h:Big2 p)(f:∀N n,p N n→q N n):Big2 q:=h.elim fun k hk=>⟨k,fun N n h1 h2=>f N n (hk N n h1 h2)⟩
theorem Big.of{p:Nat→Prop}(h:∀N,p N):Big p:=⟨0,fun N _=>h N⟩
theorem Big2.of{p:Nat→Nat→Prop}(h:∀N n,p N n):Big2 p:=⟨0,fun N n _ _=>h N n⟩
theorem Big.and{p q:Nat→Prop}(h:Big p)(h' :Big q):Big fun N=>p N∧q N:=by
 obtain⟨a,ha⟩:=h;obtain⟨b,hb⟩:=h'
 exact⟨max a b,fun N hN=>⟨ha N (by omega),hb N (by omega)⟩⟩
theorem Big2.and{p q:Nat→Nat→Prop}(h:Big2 p)(h' :Big2 q):Big2 fun N n=>p N n∧q N n:=by
 obtain⟨a,ha⟩:=h;obtain⟨b,hb⟩:=h'
 exact⟨max a b,fun N n h1 h2=>⟨ha N n (by omega) (by omega),hb N n (by omega) (by omega)⟩⟩
theorem Big.two{p:Nat→Prop}(h:Big p):Big2 fun N _=>p N:=h.elim fun k hk=>⟨k,fun N _ h _=>hk N h⟩
theorem Big2.diag{p:Nat→Nat→Prop}(h:Big2 p):Big fun N=>p N N:=h.elim fun k hk=>⟨k,fun N h=>hk N N h h⟩
theorem Big2.succ{p:Nat→Nat→Prop}(h:Big2 fun N n=>p N (n+1)):Big2 p:=by
 obtain⟨k,hk⟩:=h
 refine⟨k+1,fun N n h1 h2=> ?_⟩
 obtain⟨m,rfl⟩:∃m,n=m+1:=⟨n - 1,by omega⟩
 exact hk N m (by omega) (by omega)
theorem Big.list{α:Type}{p:α→Nat→Prop}{l:List α}(h:∀x ∈ l,Big (p x)):Big fun N=>∀x ∈ l,p x N:=by
 induction l with
 |nil=>exact .of fun N x hx=>by cases hx
 |cons a l ih =>
  refine((h a List.mem_cons_self).and (ih fun x hx=>h x (List.mem_cons_of_mem _ hx))).imp fun N ⟨h1,h2⟩ x hx=> ?_
  rcases List.mem_cons.1 hx with rfl |hx
  ·exact h1
  ·exact h2 x hx
theorem Big2.list{α:Type}{p:α→Nat→Nat→Prop}{l:List α}(h:∀x ∈ l,Big2 (p x)):Big2 fun N n=>∀x ∈ l,p x N n:=by
 induction l with
 |nil=>exact .of fun N n x hx=>by cases hx
 |cons a l ih =>
  refine((h a List.mem_cons_self).and (ih fun x hx=>h x (List.mem_cons_of_mem _ hx))).imp fun N n ⟨h1,h2⟩ x hx=> ?_
  rcases List.mem_cons.1 hx with rfl |hx
  ·exact h1
  ·exact h2 x hx
theorem Big.get{p:Nat→Prop}(h:Big p):∃N,p N:=h.elim fun k hk=>⟨k,hk k (Nat.le_refl k)⟩
def I64(x:Int):Prop:= -9223372036854775808≤x∧x≤9223372036854775807
theorem xMy(x:Int):IntKind.i64.wrap x=if x % 18446744073709551616≥9223372036854775808 then x % 18446744073709551616 - 18446744073709551616 else x % 18446744073709551616:=by
 show(if(true&&decide (x % 18446744073709551616≥9223372036854775808))=true then x % 18446744073709551616 - 18446744073709551616 else x % 18446744073709551616)=_
 simp only [Bool.true_and,decide_eq_true_eq]
theorem xEo{x:Int}(h1: -9223372036854775808≤x)(h2:x≤9223372036854775807):IntKind.i64.wrap x=x:=by
 rw [xMy]
 split <;>omega
theorem xMI(x:Int):I64 (IntKind.i64.wrap x):=by
 rw [xMy]
 unfold I64
 split <;>omega
theorem xJD{α:Type}{xs:List α}{i:Nat}{x:α}{l:List α}(h:xs.drop i=x::l):i<xs.length∧xs[i]? =some x∧xs.drop (i+1)=l:=by
 have h1:i<xs.length:=by
  rcases Nat.lt_or_ge i xs.length with h1 |h1
  ·exact h1
  ·rw [List.drop_eq_nil_of_le h1] at h;cases h
 rw [List.drop_eq_getElem_cons h1] at h
 cases h
 exact⟨h1,by simp [h1],rfl⟩
theorem xMH{α:Type}{xs:List α}{i:Nat}(h:xs.drop i= []):xs.length≤i:=by simpa using h
end Go.Ab
end
section
namespace Go.Ab
open Go.Sort
theorem xUm{a b:Org}:olt a b=true↔a.cell<b.cell∨(a.cell=b.cell∧a.row<b.row):=by
 unfold olt
 by_cases h1:a.cell<b.cell
 ·simp [h1]
 ·by_cases h2:a.cell=b.cell
  ·have:(a.cell==b.cell)=true:=by simpa using h2
   simp [this,h2]
  ·have:(a.cell==b.cell)=false:=by simpa using h2
   simp [h1,h2,this]
theorem xNm{a b:Org}:olt a b=false↔b.cell<a.cell∨(a.cell=b.cell∧b.row≤a.row):=by
 rw [←Bool.not_eq_true,xUm]
 omega
theorem xJw:SWO olt where
 irrefl:=fun x=>xNm.2 (by omega)
 trans:=fun x y z h1 h2=>by rw [xUm] at h1 h2 ⊢;omega
 ntrans:=fun x y z h1 h2=>by rw [xNm] at h1 h2 ⊢;omega
theorem xO8(x y:Org)(h1:olt x y=false)(h2:olt y x=false):x=y:=by
 rw [xNm] at h1 h2
 cases x;cases y
 simp at h1 h2 ⊢
 omega
theorem xNq(N:Nat)(a b:Org):xDT N a b=some (olt a b):=by
 unfold xDT olt
 by_cases h1:a.cell<b.cell
 ·simp [h1]
 ·cases h2:(a.cell==b.cell) <;>simp [h1]
theorem xSo{d:Array Org}{i:Nat}(hi:i<d.size):d.toList.getD (Int.toNat (i:Int)) Ty.org.dflt=d[i]! :=by
 rw [Int.toNat_natCast,List.getD_eq_getElem?_getD]
 simp [hi]
theorem xZY(N:Nat){i j:Nat}{d:Array Org}(hi:i<d.size)(hj:j<d.size):xAD N (i:Int) (j:Int) d.toList=some (olt d[i]! d[j]!,d.toList):=by
 unfold xAD
 rw [if_pos ⟨Int.natCast_nonneg _,by simpa using hi⟩,if_pos ⟨Int.natCast_nonneg _,by simpa using hj⟩,xNq,xSo hi,xSo hj]
 rfl
theorem vCA(N:Nat){i j:Nat}{d:Array Org}(hi:i<d.size)(hj:j<d.size):xAf N (i:Int) (j:Int) d.toList=some (swp d i j).toList:=by
 unfold xAf zI8
 rw [if_pos ⟨Int.natCast_nonneg _,by simpa using hi,Int.natCast_nonneg _,by simpa using hj⟩]
 rfl
theorem wn{x:Int}(n:Nat)(h:x=n)(hn:n<9223372036854775808):IntKind.i64.wrap x=(n:Int):=by rw [h];exact xEo (by omega) (by omega)
theorem xFh{β:Type}(N:Nat){x y:Int}{i j:Nat}{d:Array Org}(hx:x=i)(hy:y=j)(hi:i<d.size)(hj:j<d.size)(k:Bool × List Org→Option β) :
 Option.bind (xAD N x y d.toList) k=k (olt d[i]! d[j]!,d.toList):=by rw [hx,hy,xZY N hi hj];rfl
theorem xDR{β:Type}(N:Nat){x y:Int}{i j:Nat}{d:Array Org}(hx:x=i)(hy:y=j)(hi:i<d.size)(hj:j<d.size)(h2:2≤d.size)(k:List Org→Option β) :
 (Option.bind (xAf N x y d.toList) fun r=>if 2≤List.length d.toList then if List.length r=List.length d.toList then k r else none else none)=k (swp d i j).toList:=by
 rw [hx,hy,vCA N hi hj]
 show(if 2≤List.length d.toList then if List.length (swp d i j).toList=List.length d.toList then k (swp d i j).toList else none else none)=_
 rw [if_pos (by simpa using h2),if_pos (by simp [swp])]
theorem xCb{d:Array Org}{i j:Nat}:(swp d i j).size=d.size:=by simp [swp]
theorem xI7(lt:Org→Org→Bool)(a:Nat):∀(j:Nat) (d:Array Org),(insInner lt a j d).size=d.size
 |0,d=>rfl
 |j+1,d=>by
  unfold insInner
  split
  ·rw [xI7 lt a j,xCb]
  ·rfl
theorem ins5(N:Nat)(k:Int→Int→Int→List Org→Option (List Org)){a b i:Nat}(hi:i<4611686018427387904):∀(j n:Nat) (d:Array Org),j<d.size→2≤d.size→d.size<4611686018427387904→j<n→
 xA6 N k n (a:Int) (b:Int) (i:Int) (j:Int) d.toList=k (a:Int) (b:Int) ((i+1:Nat):Int) (insInner olt a j d).toList
 |0,n,d,hj,h2,hs,hn=>by
  obtain⟨n,rfl⟩:∃m,n=m+1:=⟨n - 1,by omega⟩
  have e:(decide (((0:Nat):Int)>(a:Int)))=false:=decide_eq_false (by omega)
  rw [xA6,e,cond_false,wn (i+1) (by omega) (by omega)]
  rfl
 |j+1,n,d,hj,h2,hs,hn=>by
  obtain⟨n,rfl⟩:∃m,n=m+1:=⟨n - 1,by omega⟩
  rw [xA6,insInner]
  by_cases ha:j+1>a
  ·have e:(decide (((j+1:Nat):Int)>(a:Int)))=true:=decide_eq_true (by omega)
   rw [e,cond_true,wn (n:=j) (by omega) (by omega),xFh N rfl rfl hj (by omega)]
   dsimp only
   cases hl:olt d[j+1]! d[j]! with
   |true =>
    rw [jT,xDR N rfl rfl hj (by omega) h2,ins5 N k hi j n _ (by rw [xCb];omega) (by rw [xCb];exact h2) (by rw [xCb];exact hs) (by omega)]
    rw [if_pos (by simp [ha])]
   |false =>
    rw [jF,wn (i+1) (by omega) (by omega),if_neg (by simp)]
  ·have e:(decide (((j+1:Nat):Int)>(a:Int)))=false:=decide_eq_false (by omega)
   rw [e,cond_false,wn (i+1) (by omega) (by omega),if_neg (by simp [ha])]
theorem ins2(N:Nat){a b:Nat}:∀(m i n:Nat) (d:Array Org),b - i=m→b≤d.size→2≤d.size→d.size<4611686018427387904→i<4611686018427387904→m<n→d.size<N→
 xA5 N n (a:Int) (b:Int) (i:Int) d.toList=some (insOuter olt a b i d).toList:=by
 intro m
 induction m with
 |zero =>
  intro i n d hm hb h2 hs hi hn hN
  obtain⟨n,rfl⟩:∃m,n=m+1:=⟨n - 1,by omega⟩
  have e:(decide ((i:Int)<(b:Int)))=false:=decide_eq_false (by omega)
  rw [xA5,e,cond_false,insOuter,if_neg (by omega)]
 |succ m ih =>
  intro i n d hm hb h2 hs hi hn hN
  obtain⟨n,rfl⟩:∃m,n=m+1:=⟨n - 1,by omega⟩
  have e:(decide ((i:Int)<(b:Int)))=true:=decide_eq_true (by omega)
  rw [xA5,e,cond_true,ins5 N _ hi i N d (by omega) h2 hs (by omega),insOuter,if_pos (by omega)]
  exact ih (i+1) n _ (by omega) (by rw [xI7];exact hb) (by rw [xI7];exact h2) (by rw [xI7];exact hs) (by omega) (by omega) (by rw [xI7];exact hN)
theorem vDR(N:Nat){a b:Nat}{d:Array Org}(hab:a≤b)(hb:b≤d.size)(h2:2≤d.size)(hs:d.size<1152921504606846976)(hN:d.size<N) :
 xBL N (a:Int) (b:Int) d.toList=some (insertionSort olt d a b).toList:=by
 unfold xBL insertionSort
 rw [wn (a+1) (by omega) (by omega)]
 exact ins2 N _ _ N d rfl hb h2 (by omega) (by omega) (by omega) hN
theorem vCy(N:Nat){hi first:Nat}(x:Int):∀(m root n:Nat) (d:Array Org),hi - root=m→root≤hi→first+hi≤d.size→2≤d.size→d.size<1152921504606846976→m<n→
 xAW N n (hi:Int) (first:Int) (root:Int) d.toList=some (siftDown olt hi first root d).toList∧(siftDown olt hi first root d).size=d.size:=by
 intro m
 induction m using Nat.strongRecOn with
 |_ m ih =>
  intro root n d hm hr hf h2 hs hn
  obtain⟨n,rfl⟩:∃m,n=m+1:=⟨n - 1,by omega⟩
  have w1:IntKind.i64.wrap (IntKind.i64.wrap (2*(root:Int))+1)=((2*root+1:Nat):Int):=by
   have e:IntKind.i64.wrap (2*(root:Int))=((2*root:Nat):Int):=wn _ (by omega) (by omega)
   rw [e];exact wn _ (by omega) (by omega)
  have w2:IntKind.i64.wrap (((2*root+1:Nat):Int)+1)=((2*root+2:Nat):Int):=wn _ (by omega) (by omega)
  rw [xAW,siftDown,w1,w2]
  by_cases hc:2*root+1≥hi
  ·have e:(decide (((2*root+1:Nat):Int)≥(hi:Int)))=true:=decide_eq_true (by omega)
   rw [e,cond_true,dif_pos hc]
   exact⟨rfl,rfl⟩
  ·have e:(decide (((2*root+1:Nat):Int)≥(hi:Int)))=false:=decide_eq_false (by omega)
   rw [e,cond_false,dif_neg hc]
   have w3:IntKind.i64.wrap ((first:Int)+((2*root+1:Nat):Int))=((first+(2*root+1):Nat):Int):=wn _ (by omega) (by omega)
   have w4:IntKind.i64.wrap (((first+(2*root+1):Nat):Int)+1)=((first+(2*root+1)+1:Nat):Int):=wn _ (by omega) (by omega)
   have w5:IntKind.i64.wrap ((first:Int)+(root:Int))=((first+root:Nat):Int):=wn _ (by omega) (by omega)
   rw [w3,w4,w5]
   have one:∀(c:Nat),c<hi→root<c→(Option.bind (xAD N ((first+root:Nat):Int) ((first+c:Nat):Int) d.toList) fun r2 =>
    bif(!r2.1) then some r2.2 else
     Option.bind (xAf N ((first+root:Nat):Int) ((first+c:Nat):Int) r2.2) fun r3 =>
     if 2≤List.length r2.2 then
     if List.length r3=List.length r2.2 then
     (xAW N n (hi:Int) (first:Int) (c:Int) r3)
     else none
     else none)=some (if !olt d[first+root]! d[first+c]! then d else siftDown olt hi first c (swp d (first+root) (first+c))).toList∧
    (if !olt d[first+root]! d[first+c]! then d else siftDown olt hi first c (swp d (first+root) (first+c))).size=d.size:=by
    intro c hc1 hc2
    rw [xFh N rfl rfl (by omega) (by omega)]
    dsimp only
    cases hl:olt d[first+root]! d[first+c]! with
    |false=>exact⟨rfl,rfl⟩
    |true =>
     have:=ih (hi - c) (by omega) c n (swp d (first+root) (first+c)) rfl (by omega) (by rw [xCb];exact hf) (by rw [xCb];exact h2) (by rw [xCb];exact hs) (by omega)
     rw [Bool.not_true,cond_false,xDR N rfl rfl (by omega) (by omega) h2]
     rw [xCb] at this
     exact this
   by_cases hd:2*root+1+1<hi
   ·have e:(decide (((2*root+2:Nat):Int)<(hi:Int)))=true:=decide_eq_true (by omega)
    have w6:IntKind.i64.wrap ((first:Int)+((2*root+2:Nat):Int))=((first+(2*root+2):Nat):Int):=wn _ (by omega) (by omega)
    rw [e,cond_true,xFh N rfl rfl (by omega) (by omega),w6]
    dsimp only
    cases hl:olt d[first+(2*root+1)]! d[first+(2*root+1)+1]! with
    |true =>
     rw [jT]
     have:=one (2*root+2) (by omega) (by omega)
     rw [if_pos (by simp [hd]),dif_pos (by omega:2*root+2<hi)]
     exact this
    |false =>
     rw [jF]
     have:=one (2*root+1) (by omega) (by omega)
     rw [if_neg (by simp)]
     exact this
   ·have e:(decide (((2*root+2:Nat):Int)<(hi:Int)))=false:=decide_eq_false (by omega)
    rw [e,cond_false,if_neg (by simp [hd])]
    exact one (2*root+1) (by omega) (by omega)
end Go.Ab
end
section
namespace Go.Ab
open Go.Sort
theorem xSI(N:Nat){hi first root:Nat}{d:Array Org}(hr:root≤hi)(hf:first+hi≤d.size)(h2:2≤d.size)(hs:d.size<1152921504606846976)(hN:d.size<N) :
 xBk N (root:Int) (hi:Int) (first:Int) d.toList=some (siftDown olt hi first root d).toList∧(siftDown olt hi first root d).size=d.size:=by
 unfold xBk
 exact vCy N 0 _ root N d rfl hr hf h2 hs (by omega)
theorem vDQ(N:Nat){first:Nat}(z:Int):∀(k n:Nat) (d:Array Org),first+k≤d.size→2≤d.size→d.size<1152921504606846976→k<n→d.size<N→
 xBw N n (first:Int) 0 ((k:Int) - 1) d.toList=some (heapPop olt first k d).toList
 |0,n,d,hf,h2,hs,hn,hN=>by
  obtain⟨n,rfl⟩:∃m,n=m+1:=⟨n - 1,by omega⟩
  have e:(decide (((0:Nat):Int) - 1≥0))=false:=decide_eq_false (by omega)
  rw [xBw,e,cond_false]
  rfl
 |k+1,n,d,hf,h2,hs,hn,hN=>by
  obtain⟨n,rfl⟩:∃m,n=m+1:=⟨n - 1,by omega⟩
  have e:(decide (((k+1:Nat):Int) - 1≥0))=true:=decide_eq_true (by omega)
  have e1:((k+1:Nat):Int) - 1=(k:Int):=by omega
  have w:IntKind.i64.wrap ((first:Int)+(k:Int))=((first+k:Nat):Int):=wn _ (by omega) (by omega)
  have w2:IntKind.i64.wrap ((k:Int) - 1)=(k:Int) - 1:=xEo (by omega) (by omega)
  rw [xBw,e,cond_true,e1,w,xDR N rfl rfl (by omega) (by omega) h2,w2]
  obtain⟨s1,s2⟩:=xSI N (hi:=k) (first:=first) (root:=0) (d:=swp d first (first+k)) (by omega) (by rw [xCb];omega) (by rw [xCb];exact h2) (by rw [xCb];exact hs) (by rw [xCb];exact hN)
  have s1:xBk N 0 (k:Int) (first:Int) (swp d first (first+k)).toList=_:=s1
  rw [s1,heapPop]
  exact vDQ N z k n _ (by rw [s2,xCb];omega) (by rw [s2,xCb];exact h2) (by rw [s2,xCb];exact hs) (by omega) (by rw [s2,xCb];exact hN)
theorem vDP(N:Nat){first hi:Nat}:∀(k n:Nat) (d:Array Org),k≤hi+1→first+hi≤d.size→2≤d.size→d.size<1152921504606846976→k<n→d.size<N→
 xBv N n (first:Int) 0 (hi:Int) ((k:Int) - 1) d.toList=some (heapPop olt first hi (heapBuild olt hi first k d)).toList
 |0,n,d,hk,hf,h2,hs,hn,hN=>by
  obtain⟨n,rfl⟩:∃m,n=m+1:=⟨n - 1,by omega⟩
  have e:(decide (((0:Nat):Int) - 1≥0))=false:=decide_eq_false (by omega)
  have w2:IntKind.i64.wrap ((hi:Int) - 1)=(hi:Int) - 1:=xEo (by omega) (by omega)
  rw [xBv,e,cond_false,w2]
  exact vDQ N 0 hi N d hf h2 hs (by omega) hN
 |k+1,n,d,hk,hf,h2,hs,hn,hN=>by
  obtain⟨n,rfl⟩:∃m,n=m+1:=⟨n - 1,by omega⟩
  have e:(decide (((k+1:Nat):Int) - 1≥0))=true:=decide_eq_true (by omega)
  have e1:((k+1:Nat):Int) - 1=(k:Int):=by omega
  have w2:IntKind.i64.wrap ((k:Int) - 1)=(k:Int) - 1:=xEo (by omega) (by omega)
  rw [xBv,e,cond_true,e1,w2]
  obtain⟨s1,s2⟩:=xSI N (hi:=hi) (first:=first) (root:=k) (d:=d) (by omega) hf h2 hs hN
  rw [s1,heapBuild]
  exact vDP N k n _ (by omega) (by rw [s2];exact hf) (by rw [s2];exact h2) (by rw [s2];exact hs) (by omega) (by rw [s2];exact hN)
theorem xZS(N:Nat){a b:Nat}{d:Array Org}(hab:a<b)(hb:b≤d.size)(h2:2≤d.size)(hs:d.size<1152921504606846976)(hN:d.size+1<N) :
 xCa N (a:Int) (b:Int) d.toList=some (heapSort olt d a b).toList:=by
 unfold xCa heapSort
 have w1:IntKind.i64.wrap ((b:Int) - (a:Int))=((b - a:Nat):Int):=wn _ (by omega) (by omega)
 have w2:IntKind.i64.wrap (((b - a:Nat):Int) - 1)=((b - a - 1:Nat):Int):=wn _ (by omega) (by omega)
 have w3:IntKind.i64.wrap (Int.tdiv ((b - a - 1:Nat):Int) 2)=(((b - a - 1) / 2+1:Nat):Int) - 1:=by
  have:Int.tdiv ((b - a - 1:Nat):Int) 2=(((b - a - 1) / 2:Nat):Int):=rfl
  rw [this,wn ((b - a - 1) / 2) rfl (by omega)]
  omega
 rw [w1,w2,w3]
 exact vDP N _ N d (by omega) (by omega) h2 hs (by omega) (by omega)
theorem rev3(N:Nat):∀(m i j n:Nat) (d:Array Org),j - i≤m→i<d.size→j<d.size→2≤d.size→d.size<1152921504606846976→m<n→
 xBb N n (i:Int) (j:Int) d.toList=some (reverseLoop i j d).toList:=by
 intro m
 induction m with
 |zero =>
  intro i j n d hm hi hj h2 hs hn
  obtain⟨n,rfl⟩:∃m,n=m+1:=⟨n - 1,by omega⟩
  have e:(decide ((i:Int)<(j:Int)))=false:=decide_eq_false (by omega)
  rw [xBb,e,cond_false,reverseLoop,if_neg (by omega)]
 |succ m ih =>
  intro i j n d hm hi hj h2 hs hn
  obtain⟨n,rfl⟩:∃m,n=m+1:=⟨n - 1,by omega⟩
  rw [xBb,reverseLoop]
  by_cases h:i<j
  ·have e:(decide ((i:Int)<(j:Int)))=true:=decide_eq_true (by omega)
   have w1:IntKind.i64.wrap ((i:Int)+1)=((i+1:Nat):Int):=wn _ (by omega) (by omega)
   have w2:IntKind.i64.wrap ((j:Int) - 1)=((j - 1:Nat):Int):=wn _ (by omega) (by omega)
   rw [e,cond_true,xDR N rfl rfl hi hj h2,if_pos h,w1,w2]
   exact ih (i+1) (j - 1) n _ (by omega) (by rw [xCb];omega) (by rw [xCb];omega) (by rw [xCb];exact h2) (by rw [xCb];exact hs) (by omega)
  ·have e:(decide ((i:Int)<(j:Int)))=false:=decide_eq_false (by omega)
   rw [e,cond_false,if_neg h]
theorem vD9(N:Nat){a b:Nat}{d:Array Org}(hab:a<b)(hb:b≤d.size)(h2:2≤d.size)(hs:d.size<1152921504606846976)(hN:d.size<N) :
 xBP N (a:Int) (b:Int) d.toList=some (reverseRange d a b).toList:=by
 unfold xBP reverseRange
 have w2:IntKind.i64.wrap ((b:Int) - 1)=((b - 1:Nat):Int):=wn _ (by omega) (by omega)
 rw [w2]
 exact rev3 N _ a (b - 1) N d (Nat.le_refl _) (by omega) (by omega) h2 hs (by omega)
theorem xKC{p:Org→Bool}{d:Array Org}{j i:Nat}(h:i≤j)(hp:p d[i]! =true):scanUp p d j i=scanUp p d j (i+1):=by
 rw [scanUp,if_pos (by simp [h,hp])]
theorem xHm{p:Org→Bool}{d:Array Org}{j i:Nat}(h:¬(i≤j∧p d[i]! =true)):scanUp p d j i=i:=by
 rw [scanUp,if_neg (by simpa using h)]
theorem xIU{p:Org→Bool}{d:Array Org}{j i:Nat}(h:i≤j+1)(hp:p d[j+1]! =true):scanDown p d i (j+1)=scanDown p d i j:=by
 rw [scanDown,if_pos (by simp [h,hp])]
theorem xFH{p:Org→Bool}{d:Array Org}{j i:Nat}(h:¬(i≤j+1∧p d[j+1]! =true)):scanDown p d i (j+1)=j+1:=by
 rw [scanDown,if_neg (by simpa using h)]
abbrev pUp(d:Array Org)(a:Nat):Org→Bool:=fun x=>olt x d[a]!
abbrev pDn(d:Array Org)(a:Nat):Org→Bool:=fun x=> !olt x d[a]!
theorem xQ5{p:Org→Bool}{d:Array Org}:∀(m i j:Nat),j+1 - i=m→i≤j+1→i≤scanUp p d j i∧scanUp p d j i≤j+1:=by
 intro m
 induction m with
 |zero=>intro i j hm hi;rw [xHm (by omega)];omega
 |succ m ih =>
  intro i j hm hi
  by_cases h:i≤j∧p d[i]! =true
  ·rw [xKC h.1 h.2]
   have:=ih (i+1) j (by omega) (by omega)
   omega
  ·rw [xHm h];omega
theorem xHY{p:Org→Bool}{d:Array Org}{i:Nat}(hi:0<i):∀(j:Nat),i≤j+1→i≤scanDown p d i j+1∧scanDown p d i j≤j
 |0,h=>by simp [scanDown];omega
 |j+1,h=>by
  by_cases h2:i≤j+1∧p d[j+1]! =true
  ·rw [xIU h2.1 h2.2]
   have:=xHY (p:=p) (d:=d) hi j (by omega)
   omega
  ·rw [xFH h2];omega
theorem xIq{p:Org→Bool}{d:Array Org}{i:Nat}(hi:0<i):∀(j:Nat),i≤j+1→i≤scanDown p d i j→p d[scanDown p d i j]! =false
 |0,h,h3=>by simp [scanDown] at h3;omega
 |j+1,h,h3=>by
  by_cases h2:i≤j+1∧p d[j+1]! =true
  ·rw [xIU h2.1 h2.2] at h3 ⊢
   exact xIq hi j (by omega) h3
  ·rw [xFH h2] at h3 ⊢
   cases hp:p d[j+1]! with
   |false=>rfl
   |true=>exact absurd ⟨h3,hp⟩ h2
theorem xSc{p:Org→Bool}{d:Array Org}:∀(m i j:Nat),j+1 - i=m→scanUp p d j i≤j→p d[scanUp p d j i]! =false:=by
 intro m
 induction m with
 |zero=>intro i j hm h;rw [xHm (by omega)] at h;omega
 |succ m ih =>
  intro i j hm h
  by_cases h2:i≤j∧p d[i]! =true
  ·rw [xKC h2.1 h2.2] at h ⊢
   exact ih (i+1) j (by omega) h
  ·rw [xHm h2] at h ⊢
   cases hp:p d[i]! with
   |false=>rfl
   |true=>exact absurd ⟨h,hp⟩ h2
theorem xZz(N:Nat)(k:Int→Int→Int→List Org→Option (Int × Bool × List Org)){a i:Nat}:∀(j n:Nat) (d:Array Org),a<i→i≤j+1→j<d.size→2≤d.size→d.size<1152921504606846976→j<n→
 xAP N k n (a:Int) (i:Int) (j:Int) d.toList =
  (if i>scanDown (pDn d a) d i j then some (((scanDown (pDn d a) d i j:Nat):Int),false,(swp d (scanDown (pDn d a) d i j) a).toList)
   else k (a:Int) ((i+1:Nat):Int) ((scanDown (pDn d a) d i j - 1:Nat):Int) (swp d i (scanDown (pDn d a) d i j)).toList)
 |0,n,d,ha,hij,hj,h2,hs,hn=>by
  obtain⟨n,rfl⟩:∃m,n=m+1:=⟨n - 1,by omega⟩
  have e:(decide ((i:Int)≤((0:Nat):Int)))=false:=decide_eq_false (by omega)
  have e2:(decide ((i:Int)>((0:Nat):Int)))=true:=decide_eq_true (by omega)
  rw [xAP,e,cond_false,e2,cond_true,xDR N rfl rfl hj (by omega) h2,scanDown,if_pos (by omega)]
 |j+1,n,d,ha,hij,hj,h2,hs,hn=>by
  obtain⟨n,rfl⟩:∃m,n=m+1:=⟨n - 1,by omega⟩
  have wi:IntKind.i64.wrap ((i:Int)+1)=((i+1:Nat):Int):=wn _ (by omega) (by omega)
  have wj:IntKind.i64.wrap (((j+1:Nat):Int) - 1)=((j:Nat):Int):=wn _ (by omega) (by omega)
  rw [xAP,wi,wj]
  by_cases h:i≤j+1
  ·have e:(decide ((i:Int)≤((j+1:Nat):Int)))=true:=decide_eq_true (by omega)
   have e2:(decide ((i:Int)>((j+1:Nat):Int)))=false:=decide_eq_false (by omega)
   rw [e,cond_true,xFh N rfl rfl hj (by omega),e2,cond_false]
   dsimp only
   cases hl:olt d[j+1]! d[a]! with
   |false =>
    rw [Bool.not_false,cond_true,xZz N k j n d ha (by omega) (by omega) h2 hs (by omega),xIU (p:=pDn d a) h (by simp [pDn,hl])]
   |true =>
    rw [Bool.not_true,cond_false,xDR N rfl rfl (by omega) hj h2,xFH (p:=pDn d a) (by simp [pDn,hl]),if_neg (by omega)]
    rfl
  ·have e:(decide ((i:Int)≤((j+1:Nat):Int)))=false:=decide_eq_false (by omega)
   have e2:(decide ((i:Int)>((j+1:Nat):Int)))=true:=decide_eq_true (by omega)
   rw [e,cond_false,e2,cond_true,xDR N rfl rfl hj (by omega) h2,xFH (p:=pDn d a) (by omega),if_pos (by omega)]
theorem vD2(N:Nat){a:Nat}:∀(m i j n:Nat) (d:Array Org),j+1 - i=m→a<i→i≤j+1→j<d.size→2≤d.size→d.size<1152921504606846976→m<n→d.size<N→
 xAz N n (a:Int) (i:Int) (j:Int) d.toList=some (((partLoop olt a i j d).1:Int),false,(swp (partLoop olt a i j d).2 (partLoop olt a i j d).1 a).toList):=by
 intro m
 induction m using Nat.strongRecOn with
 |_ m ih =>
  intro i j n d hm ha hij hj h2 hs hn hN
  obtain⟨n,rfl⟩:∃m,n=m+1:=⟨n - 1,by omega⟩
  have wi:IntKind.i64.wrap ((i:Int)+1)=((i+1:Nat):Int):=wn _ (by omega) (by omega)
  rw [xAz,wi]
  have stop:∀(hc:¬(i≤j∧pUp d a d[i]! =true)),xAP N (fun z0 z1 z2 z3=>(xAz N n z0 z1 z2 z3)) N (a:Int) (i:Int) (j:Int) d.toList =
   some (((partLoop olt a i j d).1:Int),false,(swp (partLoop olt a i j d).2 (partLoop olt a i j d).1 a).toList):=by
   intro hc
   rw [xZz N _ j N d ha hij hj h2 hs (by omega),partLoop_eq,xHm (p:=pUp d a) hc]
   have hb:=xHY (p:=pDn d a) (d:=d) (by omega:0<i) j hij
   split
   ·rfl
   ·rename_i hg
    have hne:i≠scanDown (pDn d a) d i j:=by
     intro e
     have h1:=xIq (p:=pDn d a) (d:=d) (by omega:0<i) j hij (by omega)
     rw [←e] at h1
     have h2:pUp d a d[i]! =true:=by simpa [pDn,pUp] using h1
     exact hc ⟨by omega,h2⟩
    exact ih (scanDown (pDn d a) d i j - 1+1 - (i+1)) (by omega) (i+1) (scanDown (pDn d a) d i j - 1) n _ rfl (by omega) (by omega) (by rw [xCb];omega) (by rw [xCb];exact h2) (by rw [xCb];exact hs) (by omega) (by rw [xCb];exact hN)
  by_cases h:i≤j
  ·have e:(decide ((i:Int)≤(j:Int)))=true:=decide_eq_true (by omega)
   rw [e,cond_true,xFh N rfl rfl (by omega) (by omega)]
   dsimp only
   cases hl:olt d[i]! d[a]! with
   |true =>
    rw [jT,ih (m - 1) (by omega) (i+1) j n d (by omega) (by omega) (by omega) hj h2 hs (by omega) hN]
    have:partLoop olt a i j d=partLoop olt a (i+1) j d:=by
     rw [partLoop_eq,partLoop_eq (i:=i+1),xKC (p:=pUp d a) h (by simp [pUp,hl])]
    rw [this]
   |false=>rw [jF];exact stop (by simp [pUp,hl])
  ·have e:(decide ((i:Int)≤(j:Int)))=false:=decide_eq_false (by omega)
   rw [e,cond_false];exact stop (by omega)
theorem vD3(N:Nat){a i:Nat}:∀(j n:Nat) (d:Array Org),a<i→i≤j+1→j<d.size→2≤d.size→d.size<1152921504606846976→j<n→
 xAT N n (a:Int) (i:Int) (j:Int) d.toList =
  (if i>scanDown (pDn d a) d i j then some (((scanDown (pDn d a) d i j:Nat):Int),true,(swp d (scanDown (pDn d a) d i j) a).toList)
   else xAz N N (a:Int) ((i+1:Nat):Int) ((scanDown (pDn d a) d i j - 1:Nat):Int) (swp d i (scanDown (pDn d a) d i j)).toList)
 |0,n,d,ha,hij,hj,h2,hs,hn=>by
  obtain⟨n,rfl⟩:∃m,n=m+1:=⟨n - 1,by omega⟩
  have e:(decide ((i:Int)≤((0:Nat):Int)))=false:=decide_eq_false (by omega)
  have e2:(decide ((i:Int)>((0:Nat):Int)))=true:=decide_eq_true (by omega)
  rw [xAT,e,cond_false,e2,cond_true,xDR N rfl rfl hj (by omega) h2,scanDown,if_pos (by omega)]
 |j+1,n,d,ha,hij,hj,h2,hs,hn=>by
  obtain⟨n,rfl⟩:∃m,n=m+1:=⟨n - 1,by omega⟩
  have wi:IntKind.i64.wrap ((i:Int)+1)=((i+1:Nat):Int):=wn _ (by omega) (by omega)
  have wj:IntKind.i64.wrap (((j+1:Nat):Int) - 1)=((j:Nat):Int):=wn _ (by omega) (by omega)
  rw [xAT,wi,wj]
  by_cases h:i≤j+1
  ·have e:(decide ((i:Int)≤((j+1:Nat):Int)))=true:=decide_eq_true (by omega)
   have e2:(decide ((i:Int)>((j+1:Nat):Int)))=false:=decide_eq_false (by omega)
   rw [e,cond_true,xFh N rfl rfl hj (by omega),e2,cond_false]
   dsimp only
   cases hl:olt d[j+1]! d[a]! with
   |false =>
    rw [Bool.not_false,cond_true,vD3 N j n d ha (by omega) (by omega) h2 hs (by omega),xIU (p:=pDn d a) h (by simp [pDn,hl])]
   |true =>
    rw [Bool.not_true,cond_false,xDR N rfl rfl (by omega) hj h2,xFH (p:=pDn d a) (by simp [pDn,hl]),if_neg (by omega)]
    rfl
  ·have e:(decide ((i:Int)≤((j+1:Nat):Int)))=false:=decide_eq_false (by omega)
   have e2:(decide ((i:Int)>((j+1:Nat):Int)))=true:=decide_eq_true (by omega)
   rw [e,cond_false,e2,cond_true,xDR N rfl rfl hj (by omega) h2,xFH (p:=pDn d a) (by omega),if_pos (by omega)]
theorem vFh(N:Nat){a j:Nat}:∀(m i n:Nat) (d:Array Org),j+1 - i=m→a<i→i≤j+1→j<d.size→2≤d.size→d.size<1152921504606846976→m<n→d.size<N→
 xBm N n (a:Int) (i:Int) (j:Int) d.toList=xAT N N (a:Int) ((scanUp (pUp d a) d j i:Nat):Int) (j:Int) d.toList:=by
 intro m
 induction m with
 |zero =>
  intro i n d hm ha hij hj h2 hs hn hN
  obtain⟨n,rfl⟩:∃m,n=m+1:=⟨n - 1,by omega⟩
  have e:(decide ((i:Int)≤(j:Int)))=false:=decide_eq_false (by omega)
  rw [xBm,e,cond_false,xHm (by omega)]
 |succ m ih =>
  intro i n d hm ha hij hj h2 hs hn hN
  obtain⟨n,rfl⟩:∃m,n=m+1:=⟨n - 1,by omega⟩
  have wi:IntKind.i64.wrap ((i:Int)+1)=((i+1:Nat):Int):=wn _ (by omega) (by omega)
  have e:(decide ((i:Int)≤(j:Int)))=true:=decide_eq_true (by omega)
  rw [xBm,wi,e,cond_true,xFh N rfl rfl (by omega) (by omega)]
  dsimp only
  cases hl:olt d[i]! d[a]! with
  |true=>rw [jT,ih (i+1) n d (by omega) (by omega) (by omega) hj h2 hs (by omega) hN,xKC (p:=pUp d a) (i:=i) (j:=j) (by omega) (by simp [pUp,hl])]
  |false=>rw [jF,xHm (p:=pUp d a) (by simp [pUp,hl])]
theorem vCv(N:Nat){a b pivot:Nat}{d:Array Org}(hp1:a≤pivot)(hp2:pivot<b)(hb:b≤d.size)(hab:a+1<b)(h2:2≤d.size)(hs:d.size<1152921504606846976)(hN:d.size<N) :
 xB4 N (a:Int) (b:Int) (pivot:Int) d.toList=some (((partition olt d a b pivot).1:Int),(partition olt d a b pivot).2.1,(partition olt d a b pivot).2.2.toList):=by
 have wa:IntKind.i64.wrap ((a:Int)+1)=((a+1:Nat):Int):=wn _ (by omega) (by omega)
 have wb:IntKind.i64.wrap ((b:Int) - 1)=((b - 1:Nat):Int):=wn _ (by omega) (by omega)
 have hs1:(swp d a pivot).size=d.size:=xCb
 unfold xB4 partition
 rw [xDR N rfl rfl (by omega) (by omega) h2,wa,wb]
 generalize swp d a pivot=d1 at hs1
 have hu:=xQ5 (p:=pUp d1 a) (d:=d1) _ (a+1) (b - 1) rfl (by omega)
 rw [vFh N _ (a+1) N d1 rfl (by omega) (by omega) (by omega) (by omega) (by omega) (by omega) (by omega),vD3 N (b - 1) N d1 (by omega) (by omega) (by omega) (by omega) (by omega) (by omega)]
 have hd:=xHY (p:=pDn d1 a) (d:=d1) (i:=scanUp (pUp d1 a) d1 (b - 1) (a+1)) (by omega) (b - 1) (by omega)
 dsimp only
 by_cases hc:scanUp (pUp d1 a) d1 (b - 1) (a+1)>scanDown (pDn d1 a) d1 (scanUp (pUp d1 a) d1 (b - 1) (a+1)) (b - 1)
 ·rw [if_pos hc,if_pos hc]
 ·have hne:scanUp (pUp d1 a) d1 (b - 1) (a+1)≠scanDown (pDn d1 a) d1 (scanUp (pUp d1 a) d1 (b - 1) (a+1)) (b - 1):=by
   intro e
   have h1:=xIq (p:=pDn d1 a) (d:=d1) (i:=scanUp (pUp d1 a) d1 (b - 1) (a+1)) (by omega) (b - 1) (by omega) (by omega)
   rw [←e] at h1
   have h2:=xSc (p:=pUp d1 a) (d:=d1) _ (a+1) (b - 1) rfl (by omega)
   simp only [pDn,pUp] at h1 h2
   rw [h2] at h1
   cases h1
  rw [if_neg hc,if_neg hc]
  exact vD2 N _ _ _ N _ rfl (by omega) (by omega) (by rw [xCb];omega) (by rw [xCb];omega) (by rw [xCb];omega) (by omega) (by rw [xCb];omega)
end Go.Ab
end
section
namespace Go.Ab
open Go.Sort
abbrev qUp(d:Array Org)(a:Nat):Org→Bool:=fun x=> !olt d[a]! x
abbrev qDn(d:Array Org)(a:Nat):Org→Bool:=fun x=>olt d[a]! x
theorem xUV(N:Nat)(k:Int→Int→Int→List Org→Option (Int × List Org)){a i:Nat}:∀(j n:Nat) (d:Array Org),a<i→i≤j+1→j<d.size→2≤d.size→d.size<1152921504606846976→j<n→
 xAH N k n (a:Int) (i:Int) (j:Int) d.toList =
  (if i>scanDown (qDn d a) d i j then some ((i:Int),d.toList)
   else k (a:Int) ((i+1:Nat):Int) ((scanDown (qDn d a) d i j - 1:Nat):Int) (swp d i (scanDown (qDn d a) d i j)).toList)
 |0,n,d,ha,hij,hj,h2,hs,hn=>by
  obtain⟨n,rfl⟩:∃m,n=m+1:=⟨n - 1,by omega⟩
  have e:(decide ((i:Int)≤((0:Nat):Int)))=false:=decide_eq_false (by omega)
  have e2:(decide ((i:Int)>((0:Nat):Int)))=true:=decide_eq_true (by omega)
  rw [xAH,e,cond_false,e2,cond_true,scanDown,if_pos (by omega)]
 |j+1,n,d,ha,hij,hj,h2,hs,hn=>by
  obtain⟨n,rfl⟩:∃m,n=m+1:=⟨n - 1,by omega⟩
  have wi:IntKind.i64.wrap ((i:Int)+1)=((i+1:Nat):Int):=wn _ (by omega) (by omega)
  have wj:IntKind.i64.wrap (((j+1:Nat):Int) - 1)=((j:Nat):Int):=wn _ (by omega) (by omega)
  rw [xAH,wi,wj]
  by_cases h:i≤j+1
  ·have e:(decide ((i:Int)≤((j+1:Nat):Int)))=true:=decide_eq_true (by omega)
   have e2:(decide ((i:Int)>((j+1:Nat):Int)))=false:=decide_eq_false (by omega)
   rw [e,cond_true,xFh N rfl rfl (by omega) hj,e2,cond_false]
   dsimp only
   cases hl:olt d[a]! d[j+1]! with
   |true =>
    rw [jT,xUV N k j n d ha (by omega) (by omega) h2 hs (by omega),xIU (p:=qDn d a) h (by simp [qDn,hl])]
   |false =>
    rw [jF,xDR N rfl rfl (by omega) hj h2,xFH (p:=qDn d a) (by simp [qDn,hl]),if_neg (by omega)]
    rfl
  ·have e:(decide ((i:Int)≤((j+1:Nat):Int)))=false:=decide_eq_false (by omega)
   have e2:(decide ((i:Int)>((j+1:Nat):Int)))=true:=decide_eq_true (by omega)
   rw [e,cond_false,e2,cond_true,xFH (p:=qDn d a) (by omega),if_pos (by omega)]
theorem vCw(N:Nat){a:Nat}:∀(m i j n:Nat) (d:Array Org),j+1 - i=m→a<i→i≤j+1→j<d.size→2≤d.size→d.size<1152921504606846976→m<n→d.size<N→
 xAG N n (a:Int) (i:Int) (j:Int) d.toList=some (((partEqLoop olt a i j d).1:Int),(partEqLoop olt a i j d).2.toList):=by
 intro m
 induction m using Nat.strongRecOn with
 |_ m ih =>
  intro i j n d hm ha hij hj h2 hs hn hN
  obtain⟨n,rfl⟩:∃m,n=m+1:=⟨n - 1,by omega⟩
  have wi:IntKind.i64.wrap ((i:Int)+1)=((i+1:Nat):Int):=wn _ (by omega) (by omega)
  rw [xAG,wi]
  have stop:∀(hc:¬(i≤j∧qUp d a d[i]! =true)),xAH N (fun z0 z1 z2 z3=>(xAG N n z0 z1 z2 z3)) N (a:Int) (i:Int) (j:Int) d.toList =
   some (((partEqLoop olt a i j d).1:Int),(partEqLoop olt a i j d).2.toList):=by
   intro hc
   rw [xUV N _ j N d ha hij hj h2 hs (by omega),partEqLoop_eq,xHm (p:=qUp d a) hc]
   have hb:=xHY (p:=qDn d a) (d:=d) (by omega:0<i) j hij
   split
   ·rfl
   ·rename_i hg
    have hne:i≠scanDown (qDn d a) d i j:=by
     intro e
     have h1:=xIq (p:=qDn d a) (d:=d) (by omega:0<i) j hij (by omega)
     rw [←e] at h1
     have h2:qUp d a d[i]! =true:=by simpa [qDn,qUp] using h1
     exact hc ⟨by omega,h2⟩
    exact ih (scanDown (qDn d a) d i j - 1+1 - (i+1)) (by omega) (i+1) (scanDown (qDn d a) d i j - 1) n _ rfl (by omega) (by omega) (by rw [xCb];omega) (by rw [xCb];exact h2) (by rw [xCb];exact hs) (by omega) (by rw [xCb];exact hN)
  by_cases h:i≤j
  ·have e:(decide ((i:Int)≤(j:Int)))=true:=decide_eq_true (by omega)
   rw [e,cond_true,xFh N rfl rfl (by omega) (by omega)]
   dsimp only
   cases hl:olt d[a]! d[i]! with
   |false =>
    rw [Bool.not_false,cond_true,ih (m - 1) (by omega) (i+1) j n d (by omega) (by omega) (by omega) hj h2 hs (by omega) hN]
    have:partEqLoop olt a i j d=partEqLoop olt a (i+1) j d:=by
     rw [partEqLoop_eq,partEqLoop_eq (i:=i+1),xKC (p:=qUp d a) h (by simp [qUp,hl])]
    rw [this]
   |true=>rw [Bool.not_true,cond_false];exact stop (by simp [qUp,hl])
  ·have e:(decide ((i:Int)≤(j:Int)))=false:=decide_eq_false (by omega)
   rw [e,cond_false];exact stop (by omega)
theorem xUW(N:Nat){a b pivot:Nat}{d:Array Org}(hp1:a≤pivot)(hp2:pivot<b)(hb:b≤d.size)(hab:a+1<b)(h2:2≤d.size)(hs:d.size<1152921504606846976)(hN:d.size<N) :
 xBI N (a:Int) (b:Int) (pivot:Int) d.toList=some (((partitionEqual olt d a b pivot).1:Int),(partitionEqual olt d a b pivot).2.toList):=by
 have wa:IntKind.i64.wrap ((a:Int)+1)=((a+1:Nat):Int):=wn _ (by omega) (by omega)
 have wb:IntKind.i64.wrap ((b:Int) - 1)=((b - 1:Nat):Int):=wn _ (by omega) (by omega)
 have hs1:(swp d a pivot).size=d.size:=xCb
 unfold xBI partitionEqual
 rw [xDR N rfl rfl (by omega) (by omega) h2,wa,wb]
 exact vCw N _ (a+1) (b - 1) N _ rfl (by omega) (by omega) (by omega) (by omega) (by omega) (by omega) (by omega)
theorem vEa(N:Nat)(k:Int→Int→Int→Int→List Org→Option (Bool × List Org)){a b i:Nat}{s:Nat}(hs5:s<100):∀(m j n:Nat) (d:Array Org),b - j=m→0<j→j<1152921504606846976→b≤d.size→2≤d.size→d.size<1152921504606846976→m<n→
 xAO N k n (a:Int) (b:Int) (i:Int) (s:Int) (j:Int) d.toList=k (a:Int) (b:Int) (i:Int) ((s+1:Nat):Int) (shiftUp olt b j d).toList∧(shiftUp olt b j d).size=d.size:=by
 have ws:IntKind.i64.wrap ((s:Int)+1)=((s+1:Nat):Int):=wn _ (by omega) (by omega)
 intro m
 induction m with
 |zero =>
  intro j n d hm hj hjb hb h2 hs hn
  obtain⟨n,rfl⟩:∃m,n=m+1:=⟨n - 1,by omega⟩
  have e:(decide ((j:Int)<(b:Int)))=false:=decide_eq_false (by omega)
  rw [xAO,e,cond_false,shiftUp,if_neg (by omega),ws]
  exact⟨rfl,rfl⟩
 |succ m ih =>
  intro j n d hm hj hjb hb h2 hs hn
  obtain⟨n,rfl⟩:∃m,n=m+1:=⟨n - 1,by omega⟩
  have e:(decide ((j:Int)<(b:Int)))=true:=decide_eq_true (by omega)
  have w1:IntKind.i64.wrap ((j:Int) - 1)=((j - 1:Nat):Int):=wn _ (by omega) (by omega)
  have w2:IntKind.i64.wrap ((j:Int)+1)=((j+1:Nat):Int):=wn _ (by omega) (by omega)
  rw [xAO,e,cond_true,w1,w2,ws,xFh N rfl rfl (by omega) (by omega),shiftUp,if_pos (by omega)]
  dsimp only
  cases hl:olt d[j]! d[j - 1]! with
  |false=>exact⟨rfl,rfl⟩
  |true =>
   rw [Bool.not_true,cond_false,xDR N rfl rfl (by omega) (by omega) h2]
   have:=ih (j+1) n (swp d j (j - 1)) (by omega) (by omega) (by omega) (by rw [xCb];exact hb) (by rw [xCb];exact h2) (by rw [xCb];exact hs) (by omega)
   rw [xCb] at this
   exact this
def up18(b i:Nat)(d:Array Org):Array Org:=if b - i≥2 then shiftUp olt b (i+1) d else d
theorem xSH(N:Nat)(k:Int→Int→Int→Int→List Org→Option (Bool × List Org)){a b i:Nat}{s:Nat}(hs5:s<100)(d:Array Org)(hib:i≤b)(hb:b≤d.size)(h2:2≤d.size)(hs:d.size<1152921504606846976)(hN:d.size<N) :
 xAC N k (a:Int) (b:Int) (i:Int) (s:Int) d.toList=k (a:Int) (b:Int) (i:Int) ((s+1:Nat):Int) (up18 b i d).toList∧(up18 b i d).size=d.size:=by
 have ws:IntKind.i64.wrap ((s:Int)+1)=((s+1:Nat):Int):=wn _ (by omega) (by omega)
 have w1:IntKind.i64.wrap ((b:Int) - (i:Int))=((b - i:Nat):Int):=wn _ (by omega) (by omega)
 have w2:IntKind.i64.wrap ((i:Int)+1)=((i+1:Nat):Int):=wn _ (by omega) (by omega)
 unfold xAC up18
 rw [ws,w1,w2]
 by_cases h:b - i≥2
 ·have e:(decide (((b - i:Nat):Int)≥2))=true:=decide_eq_true (by omega)
  rw [e,cond_true,if_pos h]
  exact vEa N k hs5 _ (i+1) N d rfl (by omega) (by omega) hb h2 hs (by omega)
 ·have e:(decide (((b - i:Nat):Int)≥2))=false:=decide_eq_false (by omega)
  rw [e,cond_false,if_neg h]
  exact⟨rfl,rfl⟩
theorem xZA(N:Nat)(k:Int→Int→Int→Int→List Org→Option (Bool × List Org)){a b i:Nat}{s:Nat}:∀(j n:Nat) (d:Array Org),j<d.size→2≤d.size→d.size<1152921504606846976→j<n→
 xAN N k n (a:Int) (b:Int) (i:Int) (s:Int) (j:Int) d.toList=xAC N k (a:Int) (b:Int) (i:Int) (s:Int) (shiftDown olt j d).toList∧(shiftDown olt j d).size=d.size
 |0,n,d,hj,h2,hs,hn=>by
  obtain⟨n,rfl⟩:∃m,n=m+1:=⟨n - 1,by omega⟩
  have e:(decide (((0:Nat):Int)≥1))=false:=decide_eq_false (by omega)
  rw [xAN,e,cond_false]
  exact⟨rfl,rfl⟩
 |j+1,n,d,hj,h2,hs,hn=>by
  obtain⟨n,rfl⟩:∃m,n=m+1:=⟨n - 1,by omega⟩
  have e:(decide (((j+1:Nat):Int)≥1))=true:=decide_eq_true (by omega)
  have w1:IntKind.i64.wrap (((j+1:Nat):Int) - 1)=((j:Nat):Int):=wn _ (by omega) (by omega)
  rw [xAN,e,cond_true,w1,xFh N rfl rfl hj (by omega),shiftDown]
  dsimp only
  cases hl:olt d[j+1]! d[j]! with
  |false=>exact⟨rfl,rfl⟩
  |true =>
   rw [Bool.not_true,cond_false,xDR N rfl rfl hj (by omega) h2]
   have:=xZA N k (a:=a) (b:=b) (i:=i) (s:=s) j n (swp d (j+1) j) (by rw [xCb];omega) (by rw [xCb];exact h2) (by rw [xCb];exact hs) (by omega)
   rw [xCb] at this
   exact this
theorem xMF(d:Array Org)(b:Nat):∀(m i:Nat),b - i=m→i≤b→i≤scanSorted olt d b i∧scanSorted olt d b i≤b:=by
 intro m
 induction m with
 |zero=>intro i hm hi;rw [scanSorted,if_neg (by simp;omega)];omega
 |succ m ih =>
  intro i hm hi
  rw [scanSorted]
  split
  ·have:=ih (i+1) (by omega) (by omega);omega
  ·omega
theorem vFk(N:Nat)(k:Int→Int→Int→Int→List Org→Option (Bool × List Org)){a b:Nat}{s:Nat}:∀(m i n:Nat) (d:Array Org),b - i=m→0<i→i≤b→b≤d.size→2≤d.size→d.size<1152921504606846976→m<n→
 xAQ N k n (a:Int) (b:Int) (i:Int) (s:Int) d.toList=xAR N k (a:Int) (b:Int) ((scanSorted olt d b i:Nat):Int) (s:Int) d.toList:=by
 intro m
 induction m with
 |zero =>
  intro i n d hm hi hib hb h2 hs hn
  obtain⟨n,rfl⟩:∃m,n=m+1:=⟨n - 1,by omega⟩
  have e:(decide ((i:Int)<(b:Int)))=false:=decide_eq_false (by omega)
  rw [xAQ,e,cond_false,scanSorted,if_neg (by simp;omega)]
 |succ m ih =>
  intro i n d hm hi hib hb h2 hs hn
  obtain⟨n,rfl⟩:∃m,n=m+1:=⟨n - 1,by omega⟩
  have e:(decide ((i:Int)<(b:Int)))=true:=decide_eq_true (by omega)
  have w1:IntKind.i64.wrap ((i:Int) - 1)=((i - 1:Nat):Int):=wn _ (by omega) (by omega)
  have w2:IntKind.i64.wrap ((i:Int)+1)=((i+1:Nat):Int):=wn _ (by omega) (by omega)
  rw [xAQ,e,cond_true,w1,w2,xFh N rfl rfl (by omega) (by omega),scanSorted]
  dsimp only
  cases hl:olt d[i]! d[i - 1]! with
  |false =>
   rw [Bool.not_false,cond_true,if_pos (by simp;omega)]
   exact ih (i+1) n d (by omega) (by omega) (by omega) hb h2 hs (by omega)
  |true=>rw [Bool.not_true,cond_false,if_neg (by simp)]
theorem vFi(N:Nat)(k:Int→Int→Int→Int→List Org→Option (Bool × List Org)){a b i:Nat}{s:Nat}(hs5:s<100)(d:Array Org)(hai:a<i)(hib:i≤b)(hb:b≤d.size)(h2:2≤d.size)(hs:d.size<1152921504606846976)(hN:d.size<N) :
 xAR N k (a:Int) (b:Int) (i:Int) (s:Int) d.toList =
  (if i=b then some (true,d.toList) else if b - a<50 then some (false,d.toList) else
    k (a:Int) (b:Int) (i:Int) ((s+1:Nat):Int) (up18 b i (if i - a≥2 then shiftDown olt (i - 1) (swp d i (i - 1)) else swp d i (i - 1))).toList)∧
 (i≠b→(up18 b i (if i - a≥2 then shiftDown olt (i - 1) (swp d i (i - 1)) else swp d i (i - 1))).size=d.size):=by
 have w1:IntKind.i64.wrap ((b:Int) - (a:Int))=((b - a:Nat):Int):=wn _ (by omega) (by omega)
 have w2:IntKind.i64.wrap ((i:Int) - 1)=((i - 1:Nat):Int):=wn _ (by omega) (by omega)
 have w3:IntKind.i64.wrap ((i:Int) - (a:Int))=((i - a:Nat):Int):=wn _ (by omega) (by omega)
 unfold xAR
 rw [w1,w2,w3]
 by_cases h:i=b
 ·have e:(((i:Int))==(b:Int))=true:=by simp [h]
  rw [e,cond_true,if_pos h]
  exact⟨rfl,fun g=>absurd h g⟩
 ·have e:(((i:Int))==(b:Int))=false:=by simp;omega
  rw [e,cond_false,if_neg h]
  have hlt:i<b:=by omega
  have d1:=xZA N k (a:=a) (b:=b) (i:=i) (s:=s) (i - 1) N (swp d i (i - 1)) (by rw [xCb];omega) (by rw [xCb];exact h2) (by rw [xCb];exact hs) (by omega)
  rw [xCb] at d1
  by_cases h50:b - a<50
  ·have e2:(decide (((b - a:Nat):Int)<50))=true:=decide_eq_true (by omega)
   rw [e2,cond_true,if_pos h50]
   refine⟨rfl,fun _=> ?_⟩
   by_cases h3:i - a≥2
   ·rw [if_pos h3]
    rw [(xSH N k (a:=a) (i:=i) hs5 (shiftDown olt (i - 1) (swp d i (i - 1))) hib (by rw [d1.2];exact hb) (by rw [d1.2];exact h2) (by rw [d1.2];exact hs) (by rw [d1.2];exact hN)).2,d1.2]
   ·rw [if_neg h3]
    rw [(xSH N k (a:=a) (i:=i) hs5 (swp d i (i - 1)) hib (by rw [xCb];exact hb) (by rw [xCb];exact h2) (by rw [xCb];exact hs) (by rw [xCb];exact hN)).2,xCb]
  ·have e2:(decide (((b - a:Nat):Int)<50))=false:=decide_eq_false (by omega)
   rw [e2,cond_false,if_neg h50,xDR N rfl rfl (by omega) (by omega) h2]
   by_cases h3:i - a≥2
   ·have e3:(decide (((i - a:Nat):Int)≥2))=true:=decide_eq_true (by omega)
    have u:=xSH N k (a:=a) (i:=i) hs5 (shiftDown olt (i - 1) (swp d i (i - 1))) hib (by rw [d1.2];exact hb) (by rw [d1.2];exact h2) (by rw [d1.2];exact hs) (by rw [d1.2];exact hN)
    rw [e3,cond_true,if_pos h3,d1.1,u.1,u.2,d1.2]
    exact⟨rfl,fun _=>rfl⟩
   ·have e3:(decide (((i - a:Nat):Int)≥2))=false:=decide_eq_false (by omega)
    have u:=xSH N k (a:=a) (i:=i) hs5 (swp d i (i - 1)) hib (by rw [xCb];exact hb) (by rw [xCb];exact h2) (by rw [xCb];exact hs) (by rw [xCb];exact hN)
    rw [e3,cond_false,if_neg h3,u.1,u.2,xCb]
    exact⟨rfl,fun _=>rfl⟩
theorem vD8(N:Nat){a b:Nat}:∀(q s i n:Nat) (d:Array Org),s+q=5→a<i→i≤b→b≤d.size→2≤d.size→d.size<1152921504606846976→q<n→d.size<N→
 xAE N n (a:Int) (b:Int) (i:Int) (s:Int) d.toList=some ((partialIns olt a b q i d).2,(partialIns olt a b q i d).1.toList)
 |0,s,i,n,d,hq,hai,hib,hb,h2,hs,hn,hN=>by
  obtain⟨n,rfl⟩:∃m,n=m+1:=⟨n - 1,by omega⟩
  have e:(decide ((s:Int)<5))=false:=decide_eq_false (by omega)
  rw [xAE,e,cond_false]
  rfl
 |q+1,s,i,n,d,hq,hai,hib,hb,h2,hs,hn,hN=>by
  obtain⟨n,rfl⟩:∃m,n=m+1:=⟨n - 1,by omega⟩
  have e:(decide ((s:Int)<5))=true:=decide_eq_true (by omega)
  have hsc:=xMF d b _ i rfl hib
  rw [xAE,e,cond_true,vFk N _ _ i N d rfl (by omega) hib hb h2 hs (by omega),partialIns]
  generalize scanSorted olt d b i=i2 at hsc
  obtain⟨p1,p2⟩:=vFi N (fun z0 z1 z2 z3 z4=>(xAE N n z0 z1 z2 z3 z4)) (a:=a) (b:=b) (i:=i2) (s:=s) (by omega) d (by omega) (by omega) hb h2 hs hN
  rw [p1]
  dsimp only
  by_cases h:i2=b
  ·rw [if_pos h,if_pos h]
  ·rw [if_neg h,if_neg h]
   by_cases h50:b - a<50
   ·rw [if_pos h50,if_pos h50]
   ·rw [if_neg h50,if_neg h50]
    have hsz:=p2 h
    exact vD8 N q (s+1) i2 n _ (by omega) (by omega) (by omega) (by rw [hsz];exact hb) (by rw [hsz];exact h2) (by rw [hsz];exact hs) (by omega) (by rw [hsz];exact hN)
theorem vCx(N:Nat){a b:Nat}{d:Array Org}(hab:a<b)(hb:b≤d.size)(h2:2≤d.size)(hs:d.size<1152921504606846976)(hN:d.size+10<N) :
 xBg N (a:Int) (b:Int) d.toList=some ((partialInsertionSort olt d a b).2,(partialInsertionSort olt d a b).1.toList):=by
 have wa:IntKind.i64.wrap ((a:Int)+1)=((a+1:Nat):Int):=wn _ (by omega) (by omega)
 unfold xBg partialInsertionSort
 rw [wa]
 exact vD8 N 5 0 (a+1) N d rfl (by omega) (by omega) hb h2 hs (by omega) (by omega)
end Go.Ab
end
