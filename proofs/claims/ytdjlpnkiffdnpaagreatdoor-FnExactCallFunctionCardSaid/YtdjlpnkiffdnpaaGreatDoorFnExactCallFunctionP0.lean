/- The statement FnExactCallFunction holds: plain functions, certificates, laws. Conditions: none. -/
import Derived.LaidMore
import Derived.Lay
import Derived.Lib.LaidTab
import Derived.Maps.AppendAt
import Derived.Maps.OwnSet
import Derived.OpenVars
import Derived.OrdersHeld
import Derived.SevenTiedAt
import Derived.Shelf.GgSortFunc.Slice
import Derived.Shelf.GgSortFunc.Tiny
import Derived.Shelf.Slices.In.SortNone2
import Derived.Shelf.Small.Bits
import Derived.Shelf.Small.Strs
import Derived.Shelf.Sort.Plain
import Derived.Shelf.Strconv.Itoa3
import Derived.Shelf.Strings.OnBuilder
import Derived.Shelf.Strings.Prefix
import Derived.Shelf.Strings.Search1
import Derived.Shelf.Strings.Split
import Derived.Sort.AssemblyPlain
import Derived.Stop.Joined
import Derived.Stop.LaidErr
import Derived.Test.YtdjlpnkiffdnpaaGreatDoorCards
import Derived.Test.YtdjlpnkiffdnpaaGreatDoorChecked
import Derived.Test.YtdjlpnkiffdnpaaGreatDoorProg
import Derived.Test.YtdjlpnkiffdnpaaGreatDoorRows
import Derived.Test.YtdjlpnkiffdnpaaGreatDoorTie
import Derived.WalkKit
import Derived.Test.YtdjlpnkiffdnpaaGreatDoorL2
set_option linter.all false
section
namespace Go.Ab
abbrev Ds:Str:=Ty.str.dflt
abbrev Do:Org:=Ty.org.dflt
abbrev Di:Int:=Ty.int.dflt
abbrev Dr:Rowd:=Ty.row.dflt
abbrev Dv:Val:=Ty.val.dflt
abbrev Va(f:Fl)(e:Val):List CV:=[.int .i64 (Val.kind e),.int .i64 (Val.n e),.int .i64 (Val.step e),.str (Val.text e),.sl f .val (Val.list e),.sl f .str (Val.columns e),.sl f .row (Val.rows e)]
abbrev vI(x:Int):AV:= .v false [.int .i64 x]
abbrev vP(s:Nat):AV:= .v false [.ptr s 0]
abbrev vB(x:Bool):AV:= .v false [.bool x]
abbrev vT(x:Str):AV:= .v false [.str x]
abbrev vS(f:Fl)(T:Ty)(x:List T.den):AV:= .v false [.sl f T x]
abbrev vV(f:Fl)(x:Val):AV:= .v true (Va f x)
abbrev cO(a:AV):CallO:=⟨a,[],[]⟩
end Go.Ab
end
section
open Go.IntKind (i64)
namespace Go.Ab
def xMa(a0:Int):List Arg:=[.box [.int .u64 a0]]
def xMc(r:Int×Int):CallO:=⟨.v false [.int .u64 r.1],[[.int .u64 r.2]],[]⟩
def Hr(N:Nat)(a0:Int):Option (Int×Int):=some ((zAc .u64 (zAc .u64 (zAc .u64 a0 (IntKind.u64.wrap (a0*2 ^ (Int.toNat 13)))) (Int.fdiv (zAc .u64 a0 (IntKind.u64.wrap (a0*2 ^ (Int.toNat 13)))) ((2:Int) ^ (Int.toNat 7)))) (IntKind.u64.wrap ((zAc .u64 (zAc .u64 a0 (IntKind.u64.wrap (a0*2 ^ (Int.toNat 13)))) (Int.fdiv (zAc .u64 a0 (IntKind.u64.wrap (a0*2 ^ (Int.toNat 13)))) ((2:Int) ^ (Int.toNat 7))))*2 ^ (Int.toNat 17)))),(zAc .u64 (zAc .u64 (zAc .u64 a0 (IntKind.u64.wrap (a0*2 ^ (Int.toNat 13)))) (Int.fdiv (zAc .u64 a0 (IntKind.u64.wrap (a0*2 ^ (Int.toNat 13)))) ((2:Int) ^ (Int.toNat 7)))) (IntKind.u64.wrap ((zAc .u64 (zAc .u64 a0 (IntKind.u64.wrap (a0*2 ^ (Int.toNat 13)))) (Int.fdiv (zAc .u64 a0 (IntKind.u64.wrap (a0*2 ^ (Int.toNat 13)))) ((2:Int) ^ (Int.toNat 7))))*2 ^ (Int.toNat 17)))))
def xKF(a0:Int):List Arg:=[.val (.v false [.int .u64 a0])]
def xKH(r:Int):CallO:=(cO (vI r))
def Jb(N:Nat)(a0:Int):Option Int:=nC a0
def xLU(a0:Int):List Arg:=[.val (vI a0)]
def xLW(r:Int):CallO:=⟨.v false [.int .u64 r],[],[]⟩
def Hl(N:Nat)(a0:Int):Option (Int):=(Jb N (IntKind.u64.wrap (a0))).bind fun r1=>if(0:Int)<=(IntKind.u64.wrap (r1))/\(IntKind.u64.wrap (r1))<64 then some (IntKind.u64.wrap (1*2 ^ (Int.toNat (IntKind.u64.wrap (r1))))) else none
def xIV(a0 a1:Int)(a2:List Org):List Arg:=[.val (vI a0),.val (vI a1),.val (vS (.lnt 0) .org a2),.val (.v false [.val (.pointer (some ⟨3,112,none⟩))])]
def xIW(r:(List Org)):CallO:=⟨.tup [],[],[.sl (.lnt 0) .org r]⟩
def zP(N:Nat)(a0 a1:Int)(a2:List Org):Option (List Org):=qQ a0 a1 a2
def xL7(a0:Int)(a1:Int)(a2:List Org):List Arg:=[.val (.v true [.clo 144 [1000003],.swp 189 0 (.pointer (some ⟨3,112,none⟩)) 1000003]),.val (vI a0),.val (vI a1),.gbox [.sl (.lnt 0) .org a2]]
def Of(r:(List Org)):CallO:=⟨.tup [],[[.sl (.lnt 0) .org r]],[]⟩
def Ep(N:Nat):Nat->Int->Int->(List Org)->Option ((List Org))
 |0,_,_,_=>none
 |n+1,x6,x7,g003=>bif(decide (x6<x7)) then((zP N x6 x7 g003).bind fun r1=>if 2<=g003.length then if r1.length=g003.length then(Ep N n (i64.wrap (x6+1)) (i64.wrap (x7 - 1)) r1) else none else none) else(some g003)
def Hq(N:Nat)(a0:Int)(a1:Int)(a2:List Org):Option ((List Org)):=(Ep N N a0 (i64.wrap (a1 - 1)) a2)
def xLG(a0:Int)(a1:Int)(a2:List Org):List Arg:=[.val (.v true [.clo 144 [1000003],.swp 189 0 (.pointer (some ⟨3,112,none⟩)) 1000003]),.val (vI a0),.val (vI a1),.gbox [.sl (.lnt 0) .org a2]]
def Oc(r:(List Org)):CallO:=⟨.tup [],[[.sl (.lnt 0) .org r]],[]⟩
def DP(N:Nat):Nat->Int->Int->Int->Int->Int->(List Org)->Option ((List Org))
 |0,_,_,_,_,_,_=>none
 |n+1,x1,x6,x8,x9,b7,g003=>bif(decide (x9<=(i64.wrap ((i64.wrap (x1+(i64.wrap ((i64.wrap (Int.tdiv x6 4))*2))))+1)))) then((Hr N b7).bind fun r1=>bif(decide (((i64.wrap ((rQ .u64 r1.1 (IntKind.u64.wrap (x8 - 1))))):Int)>=x6)) then((zP N x9 (i64.wrap (x1+(i64.wrap ((i64.wrap ((rQ .u64 r1.1 (IntKind.u64.wrap (x8 - 1))))) - x6)))) g003).bind fun r2=>if 2<=g003.length then if r2.length=g003.length then(DP N n x1 x6 x8 (i64.wrap (x9+1)) r1.2 r2) else none else none) else((zP N x9 (i64.wrap (x1+(i64.wrap ((rQ .u64 r1.1 (IntKind.u64.wrap (x8 - 1))))))) g003).bind fun r2=>if 2<=g003.length then if r2.length=g003.length then(DP N n x1 x6 x8 (i64.wrap (x9+1)) r1.2 r2) else none else none)) else(some g003)
def Hg(N:Nat)(a0:Int)(a1:Int)(a2:List Org):Option ((List Org)):=bif(decide ((i64.wrap (a1 - a0))>=8)) then((Hl N (i64.wrap (a1 - a0))).bind fun r1=>(DP N N a0 (i64.wrap (a1 - a0)) r1 (i64.wrap ((i64.wrap (a0+(i64.wrap ((i64.wrap (Int.tdiv (i64.wrap (a1 - a0)) 4))*2)))) - 1)) (IntKind.u64.wrap ((i64.wrap (a1 - a0)))) a2)) else(some a2)
def xIz(a0:Org)(a1:Org):List Arg:=[.val (.v true [.int .i64 a0.cell,.int .i64 a0.row]),.val (.v true [.int .i64 a1.cell,.int .i64 a1.row])]
def xIB(r:Bool):CallO:=(cO (vB r))
def EG(N:Nat)(a0:Org)(a1:Org):Option (Bool):=bif(decide (a0.cell<a1.cell)) then(some true) else(bif(a0.cell==a1.cell) then(some (decide (a0.row<a1.row))) else(some false))
def xHN(a0:Int)(a1:Int)(a2:List Org):List Arg:=[.val (vI a0),.val (vI a1),.box [.sl (.lnt 0) .org a2]]
def xHO(r:Bool×(List Org)):CallO:=⟨(vB r.1),[[.sl (.lnt 0) .org r.2]],[]⟩
def z8(N:Nat)(a0:Int)(a1:Int)(a2:List Org):Option (Bool×(List Org)):=if(0:Int)<=a0/\a0<a2.length then if(0:Int)<=a1/\a1<a2.length then(EG N (a2.getD a0.toNat Do) (a2.getD a1.toNat Do)).bind fun r1=>some (r1,a2) else none else none
def xL3(a0:Int)(a1:Int)(a2:Int)(a3:List Org):List Arg:=[.val (.v true [.clo 144 [1000004],.swp 189 0 (.pointer (some ⟨3,112,none⟩)) 1000004]),.val (vI a0),.val (vI a1),.val (vI a2),.gbox [.sl (.lnt 0) .org a3]]
def Eo(r:Int×Bool×(List Org)):CallO:=⟨.tup [(false,[.int .i64 r.1]),(false,[.bool r.2.1])],[[.sl (.lnt 0) .org r.2.2]],[]⟩
def C1(N:Nat)(k13:Int->Int->Int->(List Org)->Option (Int×Bool×(List Org))):Nat->Int->Int->Int->(List Org)->Option (Int×Bool×(List Org))
 |0,_,_,_,_=>none
 |n+1,x1,x10,x11,g004=>bif(decide (x10<=x11)) then((z8 N x11 x1 g004).bind fun r1=>bif(!r1.1) then((C1 N k13 n x1 x10 (i64.wrap (x11 - 1)) r1.2)) else(bif(decide (x10>x11)) then((zP N x11 x1 r1.2).bind fun r2=>if 2<=r1.2.length then if r2.length=r1.2.length then some (x11,false,r2) else none else none) else((zP N x10 x11 r1.2).bind fun r2=>if 2<=r1.2.length then if r2.length=r1.2.length then(k13 x1 (i64.wrap (x10+1)) (i64.wrap (x11 - 1)) r2) else none else none))) else(bif(decide (x10>x11)) then((zP N x11 x1 g004).bind fun r1=>if 2<=g004.length then if r1.length=g004.length then some (x11,false,r1) else none else none) else((zP N x10 x11 g004).bind fun r1=>if 2<=g004.length then if r1.length=g004.length then(k13 x1 (i64.wrap (x10+1)) (i64.wrap (x11 - 1)) r1) else none else none))
def BT(N:Nat):Nat->Int->Int->Int->(List Org)->Option (Int×Bool×(List Org))
 |0,_,_,_,_=>none
 |n+1,x1,x10,x11,g004=>bif(decide (x10<=x11)) then((z8 N x10 x1 g004).bind fun r1=>bif r1.1 then((BT N n x1 (i64.wrap (x10+1)) x11 r1.2)) else((C1 N (fun z0 z1 z2 z3=>(BT N n z0 z1 z2 z3)) N x1 x10 x11 r1.2))) else((C1 N (fun z0 z1 z2 z3=>(BT N n z0 z1 z2 z3)) N x1 x10 x11 g004))
def C2(N:Nat):Nat->Int->Int->Int->(List Org)->Option (Int×Bool×(List Org))
 |0,_,_,_,_=>none
 |n+1,x1,x10,x11,g004=>bif(decide (x10<=x11)) then((z8 N x11 x1 g004).bind fun r1=>bif(!r1.1) then((C2 N n x1 x10 (i64.wrap (x11 - 1)) r1.2)) else(bif(decide (x10>x11)) then((zP N x11 x1 r1.2).bind fun r2=>if 2<=r1.2.length then if r2.length=r1.2.length then some (x11,true,r2) else none else none) else((zP N x10 x11 r1.2).bind fun r2=>if 2<=r1.2.length then if r2.length=r1.2.length then(BT N N x1 (i64.wrap (x10+1)) (i64.wrap (x11 - 1)) r2) else none else none))) else(bif(decide (x10>x11)) then((zP N x11 x1 g004).bind fun r1=>if 2<=g004.length then if r1.length=g004.length then some (x11,true,r1) else none else none) else((zP N x10 x11 g004).bind fun r1=>if 2<=g004.length then if r1.length=g004.length then(BT N N x1 (i64.wrap (x10+1)) (i64.wrap (x11 - 1)) r1) else none else none))
def En(N:Nat):Nat->Int->Int->Int->(List Org)->Option (Int×Bool×(List Org))
 |0,_,_,_,_=>none
 |n+1,x1,x10,x11,g004=>bif(decide (x10<=x11)) then((z8 N x10 x1 g004).bind fun r1=>bif r1.1 then((En N n x1 (i64.wrap (x10+1)) x11 r1.2)) else((C2 N N x1 x10 x11 r1.2))) else((C2 N N x1 x10 x11 g004))
def Hp(N:Nat)(a0:Int)(a1:Int)(a2:Int)(a3:List Org):Option (Int×Bool×(List Org)):=(zP N a0 a2 a3).bind fun r1=>if 2<=a3.length then if r1.length=a3.length then(En N N a0 (i64.wrap (a0+1)) (i64.wrap (a1 - 1)) r1) else none else none
def xL1(a0:Int)(a1:Int)(a2:Int)(a3:List Org):List Arg:=[.val (.v true [.clo 144 [1000004],.swp 189 0 (.pointer (some ⟨3,112,none⟩)) 1000004]),.val (vI a0),.val (vI a1),.val (vI a2),.gbox [.sl (.lnt 0) .org a3]]
def Ho(r:Int×(List Org)):CallO:=⟨(vI r.1),[[.sl (.lnt 0) .org r.2]],[]⟩
def C0(N:Nat)(k3:Int->Int->Int->(List Org)->Option (Int×(List Org))):Nat->Int->Int->Int->(List Org)->Option (Int×(List Org))
 |0,_,_,_,_=>none
 |n+1,x1,x9,x10,g004=>bif(decide (x9<=x10)) then((z8 N x1 x10 g004).bind fun r1=>bif r1.1 then((C0 N k3 n x1 x9 (i64.wrap (x10 - 1)) r1.2)) else(bif(decide (x9>x10)) then(some (x9,r1.2)) else((zP N x9 x10 r1.2).bind fun r2=>if 2<=r1.2.length then if r2.length=r1.2.length then(k3 x1 (i64.wrap (x9+1)) (i64.wrap (x10 - 1)) r2) else none else none))) else(bif(decide (x9>x10)) then(some (x9,g004)) else((zP N x9 x10 g004).bind fun r1=>if 2<=g004.length then if r1.length=g004.length then(k3 x1 (i64.wrap (x9+1)) (i64.wrap (x10 - 1)) r1) else none else none))
def CZ(N:Nat):Nat->Int->Int->Int->(List Org)->Option (Int×(List Org))
 |0,_,_,_,_=>none
 |n+1,x1,x9,x10,g004=>bif(decide (x9<=x10)) then((z8 N x1 x9 g004).bind fun r1=>bif(!r1.1) then((CZ N n x1 (i64.wrap (x9+1)) x10 r1.2)) else((C0 N (fun z0 z1 z2 z3=>(CZ N n z0 z1 z2 z3)) N x1 x9 x10 r1.2))) else((C0 N (fun z0 z1 z2 z3=>(CZ N n z0 z1 z2 z3)) N x1 x9 x10 g004))
def Hn(N:Nat)(a0:Int)(a1:Int)(a2:Int)(a3:List Org):Option (Int×(List Org)):=(zP N a0 a2 a3).bind fun r1=>if 2<=a3.length then if r1.length=a3.length then(CZ N N a0 (i64.wrap (a0+1)) (i64.wrap (a1 - 1)) r1) else none else none
def xLZ(a0:Int)(a1:Int)(a2:List Org):List Arg:=[.val (.v true [.clo 144 [1000003],.swp 189 0 (.pointer (some ⟨3,112,none⟩)) 1000003]),.val (vI a0),.val (vI a1),.gbox [.sl (.lnt 0) .org a2]]
def At(r:Bool×(List Org)):CallO:=⟨(vB r.1),[[.sl (.lnt 0) .org r.2]],[]⟩
def Ek(N:Nat)(k3:Int->Int->Int->Int->(List Org)->Option (Bool×(List Org))):Nat->Int->Int->Int->Int->Int->(List Org)->Option (Bool×(List Org))
 |0,_,_,_,_,_,_=>none
 |n+1,x1,x2,x7,x8,x10,g003=>bif(decide (x10<x2)) then((z8 N x10 (i64.wrap (x10 - 1)) g003).bind fun r1=>bif(!r1.1) then((k3 x1 x2 x7 (i64.wrap (x8+1)) r1.2)) else((zP N x10 (i64.wrap (x10 - 1)) r1.2).bind fun r2=>if 2<=r1.2.length then if r2.length=r1.2.length then(Ek N k3 n x1 x2 x7 x8 (i64.wrap (x10+1)) r2) else none else none)) else((k3 x1 x2 x7 (i64.wrap (x8+1)) g003))
def DQ(N:Nat)(k3:Int->Int->Int->Int->(List Org)->Option (Bool×(List Org)))(x1:Int)(x2:Int)(x7:Int)(x8:Int)(g003:List Org):Option (Bool×(List Org)):=bif(decide ((i64.wrap (x2 - x7))>=2)) then((Ek N k3 N x1 x2 x7 x8 (i64.wrap (x7+1)) g003)) else((k3 x1 x2 x7 (i64.wrap (x8+1)) g003))
def Ej(N:Nat)(k3:Int->Int->Int->Int->(List Org)->Option (Bool×(List Org))):Nat->Int->Int->Int->Int->Int->(List Org)->Option (Bool×(List Org))
 |0,_,_,_,_,_,_=>none
 |n+1,x1,x2,x7,x8,x9,g003=>bif(decide (x9>=1)) then((z8 N x9 (i64.wrap (x9 - 1)) g003).bind fun r1=>bif(!r1.1) then((DQ N k3 x1 x2 x7 x8 r1.2)) else((zP N x9 (i64.wrap (x9 - 1)) r1.2).bind fun r2=>if 2<=r1.2.length then if r2.length=r1.2.length then(Ej N k3 n x1 x2 x7 x8 (i64.wrap (x9 - 1)) r2) else none else none)) else((DQ N k3 x1 x2 x7 x8 g003))
def Em(N:Nat)(k3:Int->Int->Int->Int->(List Org)->Option (Bool×(List Org)))(x1:Int)(x2:Int)(x7:Int)(x8:Int)(g003:List Org):Option (Bool×(List Org)):=bif(x7==x2) then(some (true,g003)) else(bif(decide ((i64.wrap (x2 - x1))<50)) then(some (false,g003)) else((zP N x7 (i64.wrap (x7 - 1)) g003).bind fun r1=>if 2<=g003.length then if r1.length=g003.length then bif(decide ((i64.wrap (x7 - x1))>=2)) then((Ej N k3 N x1 x2 x7 x8 (i64.wrap (x7 - 1)) r1)) else((DQ N k3 x1 x2 x7 x8 r1)) else none else none))
def El(N:Nat)(k3:Int->Int->Int->Int->(List Org)->Option (Bool×(List Org))):Nat->Int->Int->Int->Int->(List Org)->Option (Bool×(List Org))
 |0,_,_,_,_,_=>none
 |n+1,x1,x2,x7,x8,g003=>bif(decide (x7<x2)) then((z8 N x7 (i64.wrap (x7 - 1)) g003).bind fun r1=>bif(!r1.1) then((El N k3 n x1 x2 (i64.wrap (x7+1)) x8 r1.2)) else((Em N k3 x1 x2 x7 x8 r1.2))) else((Em N k3 x1 x2 x7 x8 g003))
def DR(N:Nat):Nat->Int->Int->Int->Int->(List Org)->Option (Bool×(List Org))
 |0,_,_,_,_,_=>none
 |n+1,x1,x2,x7,x8,g003=>bif(decide (x8<5)) then((El N (fun z0 z1 z2 z3 z4=>(DR N n z0 z1 z2 z3 z4)) N x1 x2 x7 x8 g003)) else(some (false,g003))
def Hm(N:Nat)(a0:Int)(a1:Int)(a2:List Org):Option (Bool×(List Org)):=(DR N N a0 a1 (i64.wrap (a0+1)) 0 a2)
def xLX(a0:Int)(a1:Int)(a2:Int)(a3:List Org):List Arg:=[.val (.v true [.clo 144 [1000004],.swp 189 0 (.pointer (some ⟨3,112,none⟩)) 1000004]),.val (vI a0),.val (vI a1),.box [.int .i64 a2],.gbox [.sl (.lnt 0) .org a3]]
def xLY(r:Int×Int×Int×(List Org)):CallO:=⟨.tup [(false,[.int .i64 r.1]),(false,[.int .i64 r.2.1])],[[.int .i64 r.2.2.1],[.sl (.lnt 0) .org r.2.2.2]],[]⟩
def Ei(N:Nat)(a0:Int)(a1:Int)(a2:Int)(a3:List Org):Option (Int×Int×Int×(List Org)):=(z8 N a1 a0 a3).bind fun r1=>bif r1.1 then(some (a1,a0,(i64.wrap (a2+1)),r1.2)) else(some (a0,a1,a2,r1.2))
def xLS(a0:Int)(a1:Int)(a2:Int)(a3:Int)(a4:List Org):List Arg:=[.val (.v true [.clo 144 [1000005],.swp 189 0 (.pointer (some ⟨3,112,none⟩)) 1000005]),.val (vI a0),.val (vI a1),.val (vI a2),.box [.int .i64 a3],.gbox [.sl (.lnt 0) .org a4]]
def xLT(r:Int×Int×(List Org)):CallO:=⟨(vI r.1),[[.int .i64 r.2.1],[.sl (.lnt 0) .org r.2.2]],[]⟩
def Eh(N:Nat)(a0:Int)(a1:Int)(a2:Int)(a3:Int)(a4:List Org):Option (Int×Int×(List Org)):=(Ei N a0 a1 a3 a4).bind fun r1=>(Ei N r1.2.1 a2 r1.2.2.1 r1.2.2.2).bind fun r2=>(Ei N r1.1 r2.1 r2.2.2.1 r2.2.2.2).bind fun r3=>some (r3.2.1,r3.2.2.1,r3.2.2.2)
def xLQ(a0:Int)(a1:Int)(a2:List Org):List Arg:=[.val (.v true [.clo 144 [1000003],.swp 189 0 (.pointer (some ⟨3,112,none⟩)) 1000003]),.val (vI a0),.box [.int .i64 a1],.gbox [.sl (.lnt 0) .org a2]]
def xLR(r:Int×Int×(List Org)):CallO:=⟨(vI r.1),[[.int .i64 r.2.1],[.sl (.lnt 0) .org r.2.2]],[]⟩
def Eg(N:Nat)(a0:Int)(a1:Int)(a2:List Org):Option (Int×Int×(List Org)):=(Eh N (i64.wrap (a0 - 1)) a0 (i64.wrap (a0+1)) a1 a2).bind fun r1=>some (r1.1,r1.2.1,r1.2.2)
def xLJ(a0:Int)(a1:Int)(a2:List Org):List Arg:=[.val (.v true [.clo 144 [1000003],.swp 189 0 (.pointer (some ⟨3,112,none⟩)) 1000003]),.val (vI a0),.val (vI a1),.gbox [.sl (.lnt 0) .org a2]]
def xLL(r:Int×Int×(List Org)):CallO:=⟨.tup [(false,[.int .i64 r.1]),(false,[.int .i64 r.2.1])],[[.sl (.lnt 0) .org r.2.2]],[]⟩
def Hh(N:Nat)(a0:Int)(a1:Int)(a2:List Org):Option (Int×Int×(List Org)):=bif(decide ((i64.wrap (a1 - a0))>=8)) then(bif(decide ((i64.wrap (a1 - a0))>=50)) then((Eg N (i64.wrap (a0+(i64.wrap ((i64.wrap (Int.tdiv (i64.wrap (a1 - a0)) 4))*1)))) 0 a2).bind fun r1=>(Eg N (i64.wrap (a0+(i64.wrap ((i64.wrap (Int.tdiv (i64.wrap (a1 - a0)) 4))*2)))) r1.2.1 r1.2.2).bind fun r2=>(Eg N (i64.wrap (a0+(i64.wrap ((i64.wrap (Int.tdiv (i64.wrap (a1 - a0)) 4))*3)))) r2.2.1 r2.2.2).bind fun r3=>(Eh N r1.1 r2.1 r3.1 r3.2.1 r3.2.2).bind fun r4=>bif(r4.2.1==0) then(some (r4.1,1,r4.2.2)) else(bif(r4.2.1==12) then(some (r4.1,2,r4.2.2)) else(some (r4.1,0,r4.2.2)))) else((Eh N (i64.wrap (a0+(i64.wrap ((i64.wrap (Int.tdiv (i64.wrap (a1 - a0)) 4))*1)))) (i64.wrap (a0+(i64.wrap ((i64.wrap (Int.tdiv (i64.wrap (a1 - a0)) 4))*2)))) (i64.wrap (a0+(i64.wrap ((i64.wrap (Int.tdiv (i64.wrap (a1 - a0)) 4))*3)))) 0 a2).bind fun r1=>bif(r1.2.1==0) then(some (r1.1,1,r1.2.2)) else(bif(r1.2.1==12) then(some (r1.1,2,r1.2.2)) else(some (r1.1,0,r1.2.2))))) else(bif((0:Int)==0) then(some ((i64.wrap (a0+(i64.wrap ((i64.wrap (Int.tdiv (i64.wrap (a1 - a0)) 4))*2)))),1,a2)) else(bif((0:Int)==12) then(some ((i64.wrap (a0+(i64.wrap ((i64.wrap (Int.tdiv (i64.wrap (a1 - a0)) 4))*2)))),2,a2)) else(some ((i64.wrap (a0+(i64.wrap ((i64.wrap (Int.tdiv (i64.wrap (a1 - a0)) 4))*2)))),0,a2)
     )))
def xL9(a0:Int)(a1:Int)(a2:Int)(a3:List Org):List Arg:=[.val (.v true [.clo 144 [1000004],.swp 189 0 (.pointer (some ⟨3,112,none⟩)) 1000004]),.val (vI a0),.val (vI a1),.val (vI a2),.gbox [.sl (.lnt 0) .org a3]]
def Oh(r:(List Org)):CallO:=⟨.tup [],[[.sl (.lnt 0) .org r]],[]⟩
def C3(N:Nat):Nat->Int->Int->Int->(List Org)->Option ((List Org))
 |0,_,_,_,_=>none
 |n+1,x2,x3,x8,g004=>bif(decide (((i64.wrap ((i64.wrap (2*x8))+1)):Int)>=x2)) then(some g004) else(bif(decide (((i64.wrap ((i64.wrap ((i64.wrap (2*x8))+1))+1)):Int)<x2)) then((z8 N (i64.wrap (x3+(i64.wrap ((i64.wrap (2*x8))+1)))) (i64.wrap ((i64.wrap (x3+(i64.wrap ((i64.wrap (2*x8))+1))))+1)) g004).bind fun r1=>bif r1.1 then((z8 N (i64.wrap (x3+x8)) (i64.wrap (x3+(i64.wrap ((i64.wrap ((i64.wrap (2*x8))+1))+1)))) r1.2).bind fun r2=>bif(!r2.1) then(some r2.2) else((zP N (i64.wrap (x3+x8)) (i64.wrap (x3+(i64.wrap ((i64.wrap ((i64.wrap (2*x8))+1))+1)))) r2.2).bind fun r3=>if 2<=r2.2.length then if r3.length=r2.2.length then(C3 N n x2 x3 (i64.wrap ((i64.wrap ((i64.wrap (2*x8))+1))+1)) r3) else none else none)) else((z8 N (i64.wrap (x3+x8)) (i64.wrap (x3+(i64.wrap ((i64.wrap (2*x8))+1)))) r1.2).bind fun r2=>bif(!r2.1) then(some r2.2) else((zP N (i64.wrap (x3+x8)) (i64.wrap (x3+(i64.wrap ((i64.wrap (2*x8))+1)))) r2.2).bind fun r3=>if 2<=r2.2.length then if r3.length=r2.2.length then(C3 N n x2 x3 (i64.wrap ((i64.wrap (2*x8))+1)) r3) else none else none))) else((z8 N (i64.wrap (x3+x8)) (i64.wrap (x3+(i64.wrap ((i64.wrap (2*x8))+1)))) g004).bind fun r1=>bif(!r1.1) then(some r1.2) else((zP N (i64.wrap (x3+x8)) (i64.wrap (x3+(i64.wrap ((i64.wrap (2*x8))+1)))) r1.2).bind fun r2=>
      if 2<=r1.2.length then if r2.length=r1.2.length then(C3 N n x2 x3 (i64.wrap ((i64.wrap (2*x8))+1)) r2) else none else none)))
def Er(N:Nat)(a0:Int)(a1:Int)(a2:Int)(a3:List Org):Option ((List Org)):=(C3 N N a1 a2 a0 a3)
def xLM(a0:Int)(a1:Int)(a2:List Org):List Arg:=[.val (.v true [.clo 144 [1000003],.swp 189 0 (.pointer (some ⟨3,112,none⟩)) 1000003]),.val (vI a0),.val (vI a1),.gbox [.sl (.lnt 0) .org a2]]
def Jr(r:(List Org)):CallO:=⟨.tup [],[[.sl (.lnt 0) .org r]],[]⟩
def Ec(N:Nat):Nat->Int->Int->Int->(List Org)->Option ((List Org))
 |0,_,_,_,_=>none
 |n+1,x6,x7,x10,g003=>bif(decide (x10>=0)) then((zP N x6 (i64.wrap (x6+x10)) g003).bind fun r1=>if 2<=g003.length then if r1.length=g003.length then(Er N x7 x10 x6 r1).bind fun r2=>(Ec N n x6 x7 (i64.wrap (x10 - 1)) r2) else none else none) else(some g003)
def Eb(N:Nat):Nat->Int->Int->Int->Int->(List Org)->Option ((List Org))
 |0,_,_,_,_,_=>none
 |n+1,x6,x7,x8,x9,g003=>bif(decide (x9>=0)) then((Er N x9 x8 x6 g003).bind fun r1=>(Eb N n x6 x7 x8 (i64.wrap (x9 - 1)) r1)) else((Ec N N x6 x7 (i64.wrap (x8 - 1)) g003))
def Hi(N:Nat)(a0:Int)(a1:Int)(a2:List Org):Option ((List Org)):=(Eb N N a0 0 (i64.wrap (a1 - a0)) (i64.wrap (Int.tdiv (i64.wrap ((i64.wrap (a1 - a0)) - 1)) 2)) a2)
def xLO(a0:Int)(a1:Int)(a2:List Org):List Arg:=[.val (.v true [.clo 144 [1000003],.swp 189 0 (.pointer (some ⟨3,112,none⟩)) 1000003]),.val (vI a0),.val (vI a1),.gbox [.sl (.lnt 0) .org a2]]
def Hk(r:(List Org)):CallO:=⟨.tup [],[[.sl (.lnt 0) .org r]],[]⟩
def Ee(N:Nat)(k2:Int->Int->Int->(List Org)->Option ((List Org))):Nat->Int->Int->Int->Int->(List Org)->Option ((List Org))
 |0,_,_,_,_,_=>none
 |n+1,x1,x2,x6,x7,g003=>bif(decide (x7>x1)) then((z8 N x7 (i64.wrap (x7 - 1)) g003).bind fun r1=>bif r1.1 then((zP N x7 (i64.wrap (x7 - 1)) r1.2).bind fun r2=>if 2<=r1.2.length then if r2.length=r1.2.length then(Ee N k2 n x1 x2 x6 (i64.wrap (x7 - 1)) r2) else none else none) else((k2 x1 x2 (i64.wrap (x6+1)) r1.2))) else((k2 x1 x2 (i64.wrap (x6+1)) g003))
def Ed(N:Nat):Nat->Int->Int->Int->(List Org)->Option ((List Org))
 |0,_,_,_,_=>none
 |n+1,x1,x2,x6,g003=>bif(decide (x6<x2)) then((Ee N (fun z0 z1 z2 z3=>(Ed N n z0 z1 z2 z3)) N x1 x2 x6 x6 g003)) else(some g003)
def Hj(N:Nat)(a0:Int)(a1:Int)(a2:List Org):Option ((List Org)):=(Ed N N a0 a1 (i64.wrap (a0+1)) a2)
def Jw(a0:Int)(a1:Int)(a2:Int)(a3:List Org):List Arg:=[.val (.v true [.clo 144 [1000004],.swp 189 0 (.pointer (some ⟨3,112,none⟩)) 1000004]),.val (vI a0),.val (vI a1),.val (vI a2),.gbox [.sl (.lnt 0) .org a3]]
def Au(r:(List Org)):CallO:=⟨.tup [],[[.sl (.lnt 0) .org r]],[]⟩
def Fq(N:Nat)(q0:Int->Int->Int->(List Org)->Option ((List Org)))(k3:Int->Int->Int->Bool->Bool->(List Org)->Option ((List Org)))(x1:Int)(x2:Int)(x3:Int)(x10:Int)(x11:Int)(g004:List Org):Option ((List Org)):=(Hp N x1 x2 x11 g004).bind fun r1=>bif(decide ((i64.wrap (r1.1 - x1))<(i64.wrap (x2 - r1.1)))) then((q0 x1 r1.1 x3 r1.2.2).bind fun r2=>(k3 (i64.wrap (r1.1+1)) x2 x3 (decide ((i64.wrap (r1.1 - x1))>=(i64.wrap (Int.tdiv x10 8)))) r1.2.1 r2)) else((q0 (i64.wrap (r1.1+1)) x2 x3 r1.2.2).bind fun r2=>(k3 x1 r1.1 x3 (decide ((i64.wrap (x2 - r1.1))>=(i64.wrap (Int.tdiv x10 8)))) r1.2.1 r2))
def DS(N:Nat)(q0:Int->Int->Int->(List Org)->Option ((List Org)))(k3:Int->Int->Int->Bool->Bool->(List Org)->Option ((List Org)))(x1:Int)(x2:Int)(x3:Int)(x8:Bool)(x9:Bool)(x10:Int)(x11:Int)(g004:List Org):Option ((List Org)):=bif(decide (x1>0)) then((z8 N (i64.wrap (x1 - 1)) x11 g004).bind fun r1=>bif(!r1.1) then((Hn N x1 x2 x11 r1.2).bind fun r2=>(k3 r2.1 x2 x3 x8 x9 r2.2)) else((Fq N q0 k3 x1 x2 x3 x10 x11 r1.2))) else((Fq N q0 k3 x1 x2 x3 x10 x11 g004))
def Fp(N:Nat)(q0:Int->Int->Int->(List Org)->Option ((List Org)))(k3:Int->Int->Int->Bool->Bool->(List Org)->Option ((List Org)))(x1:Int)(x2:Int)(x3:Int)(x8:Bool)(x9:Bool)(x10:Int)(x11:Int)(x12:Int)(g004:List Org):Option ((List Org)):=bif x8 then(bif x9 then(bif(x12==1) then((Hm N x1 x2 g004).bind fun r1=>bif r1.1 then(some r1.2) else((DS N q0 k3 x1 x2 x3 x8 x9 x10 x11 r1.2))) else((DS N q0 k3 x1 x2 x3 x8 x9 x10 x11 g004))) else((DS N q0 k3 x1 x2 x3 x8 x9 x10 x11 g004))) else((DS N q0 k3 x1 x2 x3 x8 x9 x10 x11 g004))
def Fo(N:Nat)(q0:Int->Int->Int->(List Org)->Option ((List Org)))(k3:Int->Int->Int->Bool->Bool->(List Org)->Option ((List Org)))(x1:Int)(x2:Int)(x3:Int)(x8:Bool)(x9:Bool)(x10:Int)(g004:List Org):Option ((List Org)):=(Hh N x1 x2 g004).bind fun r1=>bif(r1.2.1==2) then((Hq N x1 x2 r1.2.2).bind fun r2=>(Fp N q0 k3 x1 x2 x3 x8 x9 x10 (i64.wrap ((i64.wrap (x2 - 1)) - (i64.wrap (r1.1 - x1)))) 1 r2)) else((Fp N q0 k3 x1 x2 x3 x8 x9 x10 r1.1 r1.2.1 r1.2.2))
def DT(N:Nat)(q0:Int->Int->Int->(List Org)->Option ((List Org))):Nat->Int->Int->Int->Bool->Bool->(List Org)->Option ((List Org))
 |0,_,_,_,_,_,_=>none
 |n+1,x1,x2,x3,x8,x9,g004=>bif(decide ((i64.wrap (x2 - x1))<=12)) then((Hj N x1 x2 g004).bind fun r1=>some r1) else(bif(x3==0) then((Hi N x1 x2 g004).bind fun r1=>some r1) else(bif(!x8) then((Hg N x1 x2 g004).bind fun r1=>(Fo N q0 (fun z0 z1 z2 z3 z4 z5=>(DT N q0 n z0 z1 z2 z3 z4 z5)) x1 x2 (i64.wrap (x3 - 1)) x8 x9 (i64.wrap (x2 - x1)) r1)) else((Fo N q0 (fun z0 z1 z2 z3 z4 z5=>(DT N q0 n z0 z1 z2 z3 z4 z5)) x1 x2 x3 x8 x9 (i64.wrap (x2 - x1)) g004))))
def Od(N:Nat)(q0:Int->Int->Int->(List Org)->Option ((List Org)))(a0:Int)(a1:Int)(a2:Int)(a3:List Org):Option ((List Org)):=(DT N q0 N a0 a1 a2 true true a3)
def DU(N:Nat):Nat->Int->Int->Int->(List Org)->Option ((List Org))
 |0,_,_,_,_=>none
 |d+1,a0,a1,a2,a3=>Od N (DU N d) a0 a1 a2 a3
def Jv(N:Nat)(a0:Int)(a1:Int)(a2:Int)(a3:List Org):Option ((List Org)):=DU N N a0 a1 a2 a3
def xJJ(a0:List Val)(a1:Int):List Arg:=[.val (vS .ro .val []),.val (vI a1)]
def Ni(r:Int):CallO:=(cO (vI r))
def JX(N:Nat):Nat->Int->Int->Option (Int)
 |0,_,_=>none
 |n+1,x1,x5=>bif(decide (x5<(0:Int))) then(if(0:Int)<=x5/\x5<(0) then none else none) else(some x1)
def JW(N:Nat)(a0:List Val)(a1:Int):Option (Int):=(JX N N a1 0)
def xJ3(a0:List Str)(a1:Int):List Arg:=[.val (vS .ro .str a0),.val (vI a1)]
def Nm(r:Int):CallO:=(cO (vI r))
def HN(N:Nat):Nat->(List Str)->Int->Int->Option (Int)
 |0,_,_,_=>none
 |n+1,x0,x1,x5=>bif(decide (x5<(x0.length:Int))) then(if(0:Int)<=x5/\x5<x0.length then bif(decide (((i64.wrap (x1 - (List.length (x0.getD x5.toNat Ds):Int))):Int)<0)) then(some (-1)) else((HN N n x0 (i64.wrap (x1 - (List.length (x0.getD x5.toNat Ds):Int))) (i64.wrap (x5+1)))) else none) else(some x1)
def J4(N:Nat)(a0:List Str)(a1:Int):Option (Int):=bif(decide (((i64.wrap (a1 - (a0.length:Int))):Int)<0)) then(some (-1)) else((HN N N a0 (i64.wrap (a1 - (a0.length:Int))) 0))
def xJS(a0:List Int)(a1:Int):List Arg:=[.val (vS .ro .int a0),.val (vI a1)]
def xJU(r:Int):CallO:=(cO (vI r))
def J0(N:Nat)(a0:List Int)(a1:Int):Option (Int):=bif(decide (((i64.wrap (a1 - (a0.length:Int))):Int)<0)) then(some (-1)) else(some (i64.wrap (a1 - (a0.length:Int))))
def xJV(a0:List Org)(a1:Int):List Arg:=[.val (vS .ro .org a0),.val (vI a1)]
def xJX(r:Int):CallO:=(cO (vI r))
def J2(N:Nat)(a0:List Org)(a1:Int):Option (Int):=bif(decide (((i64.wrap (a1 - (a0.length:Int))):Int)<0)) then(some (-1)) else(some (i64.wrap (a1 - (a0.length:Int))))
def xJ0(a0:Rowd)(a1:Int):List Arg:=[.val (.v true [.sl .ro .int a0.cells,.sl .ro .org a0.frm]),.val (vI a1)]
def xJ2(r:Int):CallO:=(cO (vI r))
def HL(N:Nat)(a0:Rowd)(a1:Int):Option (Int):=(J0 N a0.cells a1).bind fun r1=>bif(decide (r1<0)) then(some (-1)) else((J2 N a0.frm r1).bind fun r2=>bif(decide (r2<0)) then(some (-1)) else(some r2))
def xJY(a0:List Rowd)(a1:Int):List Arg:=[.val (vS .ro .row a0),.val (vI a1)]
def Nl(r:Int):CallO:=(cO (vI r))
def HM(N:Nat):Nat->(List Rowd)->Int->Int->Option (Int)
 |0,_,_,_=>none
 |n+1,x0,x1,x5=>bif(decide (x5<(x0.length:Int))) then(if(0:Int)<=x5/\x5<x0.length then(HL N (x0.getD x5.toNat Dr) x1).bind fun r1=>bif(decide (r1<0)) then(some (-1)) else((HM N n x0 r1 (i64.wrap (x5+1)))) else none) else(some x1)
def J3(N:Nat)(a0:List Rowd)(a1:Int):Option (Int):=bif(decide (((i64.wrap (a1 - (a0.length:Int))):Int)<0)) then(some (-1)) else((HM N N a0 (i64.wrap (a1 - (a0.length:Int))) 0))
def No(a0:Val)(a1:Int):List Arg:=[.val (vV .ro a0),.val (vI a1)]
def Nq(r:Int):CallO:=(cO (vI r))
def Np(N:Nat)(q0:Val->Int->Option (Int))(q1:(List Val)->Int->Option (Int))(a0:Val)(a1:Int):Option (Int):=bif(decide (((i64.wrap (a1 - (a0.text.length:Int))):Int)<0)) then(some (-1)) else((q1 a0.list (i64.wrap (a1 - (a0.text.length:Int)))).bind fun r1=>bif(decide (r1<0)) then(some (-1)) else((J4 N a0.columns r1).bind fun r2=>bif(decide (r2<0)) then(some (-1)) else((J3 N a0.rows r2).bind fun r3=>bif(decide (r3<0)) then(some (-1)) else(some r3))))
def J6(a0:List Val)(a1:Int):List Arg:=[.val (vS .ro .val a0),.val (vI a1)]
def HO(r:Int):CallO:=(cO (vI r))
def Fb(N:Nat)(q0:Val->Int->Option (Int))(q1:(List Val)->Int->Option (Int)):Nat->(List Val)->Int->Int->Option (Int)
 |0,_,_,_=>none
 |n+1,x0,x1,x5=>bif(decide (x5<(x0.length:Int))) then(if(0:Int)<=x5/\x5<x0.length then(q0 (x0.getD x5.toNat Dv) x1).bind fun r1=>bif(decide (r1<0)) then(some (-1)) else((Fb N q0 q1 n x0 r1 (i64.wrap (x5+1)))) else none) else(some x1)
def Nn(N:Nat)(q0:Val->Int->Option (Int))(q1:(List Val)->Int->Option (Int))(a0:List Val)(a1:Int):Option (Int):=bif(decide (((i64.wrap (a1 - (a0.length:Int))):Int)<0)) then(some (-1)) else((Fb N q0 q1 N a0 (i64.wrap (a1 - (a0.length:Int))) 0))
structure laws_szValue_rec where
 c_laws_szValue:Val->Int->Option (Int)
 c_laws_szValueS:(List Val)->Int->Option (Int)
def A3(N:Nat):Nat->laws_szValue_rec
 |0=>⟨fun _ _=>none,fun _ _=>none⟩
 |d+1=>⟨Np N (A3 N d).c_laws_szValue (A3 N d).c_laws_szValueS,Nn N (A3 N d).c_laws_szValue (A3 N d).c_laws_szValueS⟩
def J5(N:Nat)(a0:List Val)(a1:Int):Option (Int):=(A3 N N).c_laws_szValueS a0 a1
def xKl(a0:List Str):List Arg:=[.val (vS .ro .str a0)]
def Nu(r:(List Str)):CallO:=(cO (vS .own .str r))
def HW(N:Nat):Nat->(List Str)->(List Str)->Int->Option ((List Str))
 |0,_,_,_=>none
 |n+1,x0,x3,x4=>bif(decide (x4<(x0.length:Int))) then(if(0:Int)<=x4/\x4<x0.length then if(0:Int)<=x4/\x4<x3.length then(HW N n x0 (x3.set x4.toNat (x0.getD x4.toNat Ds)) (i64.wrap (x4+1))) else none else none) else(some x3)
def HV(N:Nat)(a0:List Str):Option ((List Str)):=if(0:Int)<=(a0.length:Int)/\(a0.length:Int)=(a0.length:Int)/\(a0.length:Int)<=Lim then(HW N N a0 (List.replicate (Int.toNat (a0.length:Int)) Ds) 0) else none
def xJ9(a0:List Int):List Arg:=[.val (vS .ro .int a0)]
def Nr(r:(List Int)):CallO:=(cO (vS .own .int r))
def HQ(N:Nat):Nat->(List Int)->(List Int)->Int->Option ((List Int))
 |0,_,_,_=>none
 |n+1,x0,x3,x4=>bif(decide (x4<(x0.length:Int))) then(if(0:Int)<=x4/\x4<x0.length then if(0:Int)<=x4/\x4<x3.length then(HQ N n x0 (x3.set x4.toNat (x0.getD x4.toNat Di)) (i64.wrap (x4+1))) else none else none) else(some x3)
def HP(N:Nat)(a0:List Int):Option ((List Int)):=if(0:Int)<=(a0.length:Int)/\(a0.length:Int)=(a0.length:Int)/\(a0.length:Int)<=Lim then(HQ N N a0 (List.replicate (Int.toNat (a0.length:Int)) Di) 0) else none
def xKd(a0:Org):List Arg:=[.val (.v true [.int .i64 a0.cell,.int .i64 a0.row])]
def xKf(r:Org):CallO:=⟨.v true [.int .i64 (Org.cell r),.int .i64 (Org.row r)],[],[]⟩
def J7(N:Nat)(a0:Org):Option (Org):=some a0
def xKb(a0:List Org):List Arg:=[.val (vS .ro .org a0)]
def Ns(r:(List Org)):CallO:=(cO (vS .own .org r))
def HS(N:Nat):Nat->(List Org)->(List Org)->Int->Option ((List Org))
 |0,_,_,_=>none
 |n+1,x0,x3,x4=>bif(decide (x4<(x0.length:Int))) then(if(0:Int)<=x4/\x4<x0.length then(J7 N (x0.getD x4.toNat Do)).bind fun r1=>if(0:Int)<=x4/\x4<x3.length then(HS N n x0 (x3.set x4.toNat r1) (i64.wrap (x4+1))) else none else none) else(some x3)
def HR(N:Nat)(a0:List Org):Option ((List Org)):=if(0:Int)<=(a0.length:Int)/\(a0.length:Int)=(a0.length:Int)/\(a0.length:Int)<=Lim then(HS N N a0 (List.replicate (Int.toNat (a0.length:Int)) Do) 0) else none
def xKi(a0:Rowd):List Arg:=[.val (.v true [.sl .ro .int a0.cells,.sl .ro .org a0.frm])]
def xKk(r:Rowd):CallO:=⟨.v true [.sl .own .int (Rowd.cells r),.sl .own .org (Rowd.frm r)],[],[]⟩
def Fc(N:Nat)(a0:Rowd):Option (Rowd):=(HP N a0.cells).bind fun r1=>(HR N a0.frm).bind fun r2=>some (Rowd.mk r1 r2)
def xKg(a0:List Rowd):List Arg:=[.val (vS .ro .row a0)]
def Nt(r:(List Rowd)):CallO:=(cO (vS .own .row r))
def HU(N:Nat):Nat->(List Rowd)->(List Rowd)->Int->Option ((List Rowd))
 |0,_,_,_=>none
 |n+1,x0,x3,x4=>bif(decide (x4<(x0.length:Int))) then(if(0:Int)<=x4/\x4<x0.length then(Fc N (x0.getD x4.toNat Dr)).bind fun r1=>if(0:Int)<=x4/\x4<x3.length then(HU N n x0 (x3.set x4.toNat r1) (i64.wrap (x4+1))) else none else none) else(some x3)
def HT(N:Nat)(a0:List Rowd):Option ((List Rowd)):=if(0:Int)<=(a0.length:Int)/\(a0.length:Int)=(a0.length:Int)/\(a0.length:Int)<=Lim then(HU N N a0 (List.replicate (Int.toNat (a0.length:Int)) Dr) 0) else none
def Nv(a0:Val):List Arg:=[.val (vV .ro a0)]
def Nw(r:Val):CallO:=(cO (vV .own r))
def H0(N:Nat)(q0:Val->Option (Val))(q1:(List Val)->Option ((List Val)))(a0:Val):Option (Val):=(q1 a0.list).bind fun r1=>(HV N a0.columns).bind fun r2=>(HT N a0.rows).bind fun r3=>some (Val.mk a0.kind a0.n a0.step a0.text r1 r2 r3)
def J8(a0:List Val):List Arg:=[.val (vS .ro .val a0)]
def HZ(r:(List Val)):CallO:=(cO (vS .own .val r))
def HX(N:Nat)(q0:Val->Option (Val))(q1:(List Val)->Option ((List Val))):Nat->(List Val)->(List Val)->Int->Option ((List Val))
 |0,_,_,_=>none
 |n+1,x0,x3,x4=>bif(decide (x4<(x0.length:Int))) then(if(0:Int)<=x4/\x4<x0.length then(q0 (x0.getD x4.toNat Dv)).bind fun r1=>if(0:Int)<=x4/\x4<x3.length then(HX N q0 q1 n x0 (x3.set x4.toNat r1.re) (i64.wrap (x4+1))) else none else none) else(some x3)
def HY(N:Nat)(q0:Val->Option (Val))(q1:(List Val)->Option ((List Val)))(a0:List Val):Option ((List Val)):=if(0:Int)<=(a0.length:Int)/\(a0.length:Int)=(a0.length:Int)/\(a0.length:Int)<=Lim then(HX N q0 q1 N a0 (List.replicate (Int.toNat (a0.length:Int)) Dv) 0) else none
structure laws_toValue_rec where
 c_laws_toValue:Val->Option (Val)
 c_laws_toValueS:(List Val)->Option ((List Val))
def AL(N:Nat):Nat->laws_toValue_rec
 |0=>⟨fun _=>none,fun _=>none⟩
 |d+1=>⟨H0 N (AL N d).c_laws_toValue (AL N d).c_laws_toValueS,HY N (AL N d).c_laws_toValue (AL N d).c_laws_toValueS⟩
def CS(N:Nat)(a0:List Val):Option ((List Val)):=(AL N N).c_laws_toValueS a0
def xMg(a0:Str):List Arg:=[.val (vT a0)]
def xMi(r:Int):CallO:=(cO (vI r))
def Bl(N:Nat)(a0:Str):Option (Int):=bif((a0:Str)== [99,108,111,99,107]) then(some 0) else(bif((a0:Str)== [108,101,110]) then(some 1) else(bif((a0:Str)== [115,117,109]) then(some 1) else(bif((a0:Str)== [114,111,119,115]) then(some 1) else(bif((a0:Str)== [99,104,97,110,99,101]) then(some 1) else(bif((a0:Str)== [102,105,108,101]) then(some 1) else(bif((a0:Str)== [116,97,107,101]) then(some 2) else(bif((a0:Str)== [115,107,105,112]) then(some 2) else(bif((a0:Str)== [114,97,110,103,101]) then(some 2) else(bif((a0:Str)== [110,116,104]) then(some 2) else(bif((a0:Str)== [107,101,101,112]) then(some 2) else(bif((a0:Str)== [99,111,108,117,109,110]) then(some 2) else(bif((a0:Str)== [116,97,98,108,101]) then(some 2) else(bif((a0:Str)== [119,104,101,114,101]) then(some 3) else(bif((a0:Str)== [103,114,111,117,112]) then(some 3) else(bif((a0:Str)== [106,111,105,110]) then(some 3) else(bif((a0:Str)== [97,100,100]) then(some 4) else(some (-1))))))))))))))))))
def xMy(a0:Int):List Arg:=[.val (vI a0)]
def xMz(r:Val):CallO:=(cO (vV .own r))
def yV(N:Nat)(a0:Int):Option (Val):=some (Val.mk 6 a0 0 [] [] [] [])
def xNz(a0:Int)(a1:Int)(a2:Int):List Arg:=[.val (vI a0),.val (vI a1),.val (vI a2)]
def xNA(r:Bool):CallO:=(cO (vB r))
def D7(N:Nat)(a0:Int)(a1:Int)(a2:Int):Option (Bool):=bif(decide (a0>=a1)) then(some (decide (a0<=a2))) else(some false)
def xNY(a0:Int):List Arg:=[.val (vI a0)]
def xNZ(r:Bool):CallO:=(cO (vB r))
def BW(N:Nat)(a0:Int):Option (Bool):=(D7 N a0 (-1000000000) 1000000000).bind fun r1=>some r1
def xML(a0:Str):List Arg:=[.val (vT a0)]
def xAg(r:Bool):CallO:=(cO (vB r))
def C7(N:Nat):Nat->Str->Int->Option (Bool)
 |0,_,_=>none
 |n+1,x0,x3=>bif(decide (x3<(x0.length:Int))) then(if(0:Int)<=x3/\x3<x0.length then bif(decide ((((x0.getD x3.toNat 0).toNat:Int):Int)<32)) then(some false) else(bif(decide ((((x0.getD x3.toNat 0).toNat:Int):Int)>126)) then(some false) else(bif((((x0.getD x3.toNat 0).toNat:Int):Int)==34) then(some false) else((C7 N n x0 (i64.wrap (x3+1)))))) else none) else(some (decide ((x0.length:Int)<=20)))
def KB(N:Nat)(a0:Str):Option (Bool):=(C7 N N a0 0)
def xNU(a0:Val):List Arg:=[.val (vV .ro a0)]
def xNW(r:Bool):CallO:=(cO (vB r))
def KN(N:Nat)(a0:Val):Option (Bool):=bif(a0.kind==1) then(some true) else(bif(a0.kind==2) then(some true) else(some (a0.kind==3)))
def xNB(a0:Int)(a1:Int):List Arg:=[.val (vI a0),.val (vI a1)]
def xND(r:Int):CallO:=(cO (vI r))
def IF(N:Nat)(a0:Int)(a1:Int):Option (Int):=bif(decide (a0>a1)) then(some a0) else(some a1)
def Jy(a0:Val):List Arg:=[.val (vV .ro a0)]
def Hv(r:Int):CallO:=(cO (vI r))
def Et(N:Nat)(q0:Val->Option (Int)):Nat->Int->Int->Val->Option (Int)
 |0,_,_,_=>none
 |n+1,x3,x4,b1=>bif(decide (x4<(b1.list.length:Int))) then(if(0:Int)<=x4/\x4<b1.list.length then(q0 (b1.list.getD x4.toNat Dv)).bind fun r1=>(IF N x3 r1).bind fun r2=>(Et N q0 n r2 (i64.wrap (x4+1)) b1) else none) else(some (i64.wrap (x3+1)))
def xAa(N:Nat)(q0:Val->Option (Int))(a0:Val):Option (Int):=(Et N q0 N 0 0 a0)
def DY(N:Nat):Nat->Val->Option (Int)
 |0,_=>none
 |d+1,a0=>xAa N (DY N d) a0
def Hu(N:Nat)(a0:Val):Option (Int):=DY N N a0
def xNK(a0:Str):List Arg:=[.val (vT a0)]
def xAv(r:Bool):CallO:=(cO (vB r))
def BV(N:Nat):Nat->Str->Int->Option (Bool)
 |0,_,_=>none
 |n+1,x0,x3=>bif(decide (x3<(x0.length:Int))) then(if(0:Int)<=x3/\x3<x0.length then bif(decide ((((x0.getD x3.toNat 0).toNat:Int):Int)>=97)) then(bif(decide ((((x0.getD x3.toNat 0).toNat:Int):Int)>=48)) then(bif(!(decide ((((x0.getD x3.toNat 0).toNat:Int):Int)<=122))) then(bif(x3==0) then(some false) else(bif(!(decide ((((x0.getD x3.toNat 0).toNat:Int):Int)<=57))) then(some false) else((BV N n x0 (i64.wrap (x3+1)))))) else((BV N n x0 (i64.wrap (x3+1))))) else(bif(!(decide ((((x0.getD x3.toNat 0).toNat:Int):Int)<=122))) then(bif(x3==0) then(some false) else(some false)) else((BV N n x0 (i64.wrap (x3+1)))))) else(bif(decide ((((x0.getD x3.toNat 0).toNat:Int):Int)>=48)) then(bif(x3==0) then(some false) else(bif(!(decide ((((x0.getD x3.toNat 0).toNat:Int):Int)<=57))) then(some false) else((BV N n x0 (i64.wrap (x3+1)))))) else(bif(x3==0) then(some false) else(some false))) else none) else(some (decide ((x0.length:Int)>0)))
def KH(N:Nat)(a0:Str):Option (Bool):=(BV N N a0 0)
def xNH:List Arg:=[]
def xNJ(r:(List Str)):CallO:=(cO (vS .own .str r))
def KG(N:Nat):Option ((List Str)):=some [[108,101,116],[105,110],[105,102],[116,104,101,110],[101,108,115,101],[102,111,114],[100,111],[108,101,110],[115,117,109],[116,97,107,101],[115,107,105,112],[114,97,110,103,101],[110,116,104],[119,104,101,114,101],[107,101,101,112],[97,100,100],[103,114,111,117,112],[106,111,105,110],[99,111,108,117,109,110],[114,111,119,115],[99,108,111,99,107],[99,104,97,110,99,101],[102,105,108,101],[116,97,98,108,101]]
def xNy(a0:List Str)(a1:Str):List Arg:=[.val (vS .ro .str a0),.val (vT a1)]
def xAu(r:Bool):CallO:=(cO (vB r))
def D6(N:Nat):Nat->(List Str)->Str->Int->Option (Bool)
 |0,_,_,_=>none
 |n+1,x0,x1,x5=>bif(decide (x5<(x0.length:Int))) then(if(0:Int)<=x5/\x5<x0.length then bif(((x0.getD x5.toNat Ds):Str)==x1) then(some true) else((D6 N n x0 x1 (i64.wrap (x5+1)))) else none) else(some false)
def ID(N:Nat)(a0:List Str)(a1:Str):Option (Bool):=(D6 N N a0 a1 0)
def xMF(a0:Str):List Arg:=[.val (vT a0)]
def xMI(r:Bool):CallO:=(cO (vB r))
def Hw(N:Nat)(a0:Str):Option (Bool):=(KG N).bind fun r1=>(ID N r1 a0).bind fun r2=>some r2
def xMJ(a0:Str):List Arg:=[.val (vT a0)]
def xMK(r:Bool):CallO:=(cO (vB r))
def Fs(N:Nat)(a0:Str):Option (Bool):=(KH N a0).bind fun r1=>bif r1 then(bif(decide ((a0.length:Int)<=8)) then((Hw N a0).bind fun r2=>some (!r2)) else(some false)) else(some false)
def xMf(a0:List Str):List Arg:=[.val (vS .ro .str a0)]
def Oj(r:Bool):CallO:=(cO (vB r))
def DV(N:Nat):Nat->(List Str)->Int->Option (Bool)
 |0,_,_=>none
 |n+1,x0,x3=>bif(decide (x3<(x0.length:Int))) then(if(0:Int)<=x3/\x3<=x0.length then if(0:Int)<=x3/\x3<x0.length then(ID N (List.take x3.toNat x0) (x0.getD x3.toNat Ds)).bind fun r1=>bif r1 then(some false) else((DV N n x0 (i64.wrap (x3+1)))) else none else none) else(some true)
def Fr(N:Nat)(a0:List Str):Option (Bool):=(DV N N a0 0)
def xNS(a0:List Str):List Arg:=[.val (vS .ro .str a0)]
def xAz(r:Bool):CallO:=(cO (vB r))
def Ex(N:Nat):Nat->(List Str)->Int->Option (Bool)
 |0,_,_=>none
 |n+1,x0,x3=>bif(decide (x3<(x0.length:Int))) then(if(0:Int)<=x3/\x3<x0.length then(Fs N (x0.getD x3.toNat Ds)).bind fun r1=>bif(!r1) then(some false) else((Ex N n x0 (i64.wrap (x3+1)))) else none) else((D7 N (x0.length:Int) 1 4).bind fun r1=>bif r1 then((Fr N x0).bind fun r2=>some r2) else(some false))
def II(N:Nat)(a0:List Str):Option (Bool):=(Ex N N a0 0)
def xNQ(a0:Org)(a1:Org):List Arg:=[.val (.v true [.int .i64 a0.cell,.int .i64 a0.row]),.val (.v true [.int .i64 a1.cell,.int .i64 a1.row])]
def xNR(r:Bool):CallO:=(cO (vB r))
def D8(N:Nat)(a0:Org)(a1:Org):Option (Bool):=bif(decide (a0.cell<a1.cell)) then(some true) else(bif(a0.cell==a1.cell) then(some (decide (a0.row<a1.row))) else(some false))
def xNN(a0:List Org):List Arg:=[.val (vS .ro .org a0)]
def xAw(r:Bool):CallO:=(cO (vB r))
def Ca(N:Nat):Nat->(List Org)->Int->Option (Bool)
 |0,_,_=>none
 |n+1,x0,x3=>bif(decide (x3<(x0.length:Int))) then(if(0:Int)<=x3/\x3<x0.length then bif(decide (((Org.cell (x0.getD x3.toNat Do)):Int)<0)) then(some false) else(bif(decide (((Org.row (x0.getD x3.toNat Do)):Int)<0)) then(some false) else(bif(decide (x3>0)) then(if(0:Int)<=(i64.wrap (x3 - 1))/\(i64.wrap (x3 - 1))<x0.length then(D8 N (x0.getD (Int.toNat (i64.wrap (x3 - 1))) Do) (x0.getD x3.toNat Do)).bind fun r1=>bif(!r1) then(some false) else((Ca N n x0 (i64.wrap (x3+1)))) else none) else((Ca N n x0 (i64.wrap (x3+1)))))) else none) else(some true)
def KI(N:Nat)(a0:List Org):Option (Bool):=(Ca N N a0 0)
def xN2(a0:Val):List Arg:=[.val (vV .ro a0)]
def IL(r:Bool):CallO:=(cO (vB r))
def Dd(N:Nat)(k4:Int->Val->Option (Bool)):Nat->Int->Int->Val->Rowd->Option (Bool)
 |0,_,_,_,_=>none
 |n+1,x3,x5,b1,b4=>bif(decide (x5<(b4.cells.length:Int))) then(if(0:Int)<=x5/\x5<b4.cells.length then(BW N (b4.cells.getD x5.toNat Di)).bind fun r1=>bif(!r1) then(some false) else((Dd N k4 n x3 (i64.wrap (x5+1)) b1 b4)) else none) else((k4 (i64.wrap (x3+1)) b1))
def De(N:Nat):Nat->Int->Val->Option (Bool)
 |0,_,_=>none
 |n+1,x3,b1=>bif(decide (x3<(b1.rows.length:Int))) then(if(0:Int)<=x3/\x3<b1.rows.length then bif(((List.length (Rowd.cells (b1.rows.getD x3.toNat Dr)):Int):Int) != (b1.columns.length:Int)) then(some false) else((KI N (Rowd.frm (b1.rows.getD x3.toNat Dr))).bind fun r1=>bif(!r1) then(some false) else((Dd N (fun z0 z1=>(De N n z0 z1)) N x3 0 b1 (b1.rows.getD x3.toNat Dr)))) else none) else(some true)
def IK(N:Nat)(a0:Val):Option (Bool):=(II N a0.columns).bind fun r1=>bif(!r1) then(some false) else(bif(decide ((a0.rows.length:Int)>12)) then(some false) else((De N N 0 a0)))
def KD(a0:Val):List Arg:=[.val (vV .ro a0)]
def KE(r:Bool):CallO:=(cO (vB r))
def Hx(N:Nat)(q0:Val->Option (Bool))(q1:Val->Option (Bool))(a0:Val):Option (Bool):=bif(a0.kind != 3) then(bif(decide ((a0.list.length:Int)>0)) then(some false) else(bif(a0.kind != 5) then(bif(decide (((i64.wrap ((a0.columns.length:Int)+(a0.rows.length:Int))):Int)>0)) then(some false) else(bif(a0.kind != 2) then(bif(!((a0.text:Str)== [])) then(some false) else(bif(a0.kind != 4) then(bif(a0.step != 0) then(some false) else(bif(a0.kind==1) then((BW N a0.n).bind fun r1=>some r1) else(bif(a0.kind==6) then((D7 N a0.n 1 8).bind fun r1=>some r1) else(some false)))) else((BW N a0.n).bind fun r1=>bif r1 then((BW N a0.step).bind fun r2=>some r2) else(some false)))) else(bif(a0.step != 0) then(some false) else(bif(a0.n==0) then((KB N a0.text).bind fun r1=>some r1) else(some false))))) else(bif(!((a0.text:Str)== [])) then(some false) else(bif(a0.step != 0) then(some false) else(bif(a0.n==0) then((IK N a0).bind fun r1=>some r1) else(some false)))))) else(bif(decide (((i64.wrap ((a0.columns.length:Int)+(a0.rows.length:Int))):Int)>0)) then(some false) else(bif(!((a0.text:Str)== [])) then(some false) else(bif(a0.step != 0) then(some false) else(bif(a0.n==0) then((q1 a0).bind fun r1=>some r1) else(some false)))))
def xAB(a0:Val):List Arg:=[.val (vV .ro a0)]
def KO(r:Bool):CallO:=(cO (vB r))
def Cb(N:Nat)(q0:Val->Option (Bool))(q1:Val->Option (Bool)):Nat->Int->Val->Option (Bool)
 |0,_,_=>none
 |n+1,x3,b1=>bif(decide (x3<(b1.list.length:Int))) then(if(0:Int)<=x3/\x3<b1.list.length then(KN N (b1.list.getD x3.toNat Dv)).bind fun r1=>bif(!r1) then(some false) else((q0 (b1.list.getD x3.toNat Dv)).bind fun r2=>bif(!r2) then(some false) else((Cb N q0 q1 n (i64.wrap (x3+1)) b1))) else none) else(bif(decide ((b1.list.length:Int)<=8)) then((Hu N b1).bind fun r1=>some (decide (r1<=3))) else(some false))
def xAC(N:Nat)(q0:Val->Option (Bool))(q1:Val->Option (Bool))(a0:Val):Option (Bool):=(Cb N q0 q1 N 0 a0)
structure spec_IsValidValue_rec where
 c_spec_IsValidValue:Val->Option (Bool)
 c_spec_l3List:Val->Option (Bool)
def AB(N:Nat):Nat->spec_IsValidValue_rec
 |0=>⟨fun _=>none,fun _=>none⟩
 |d+1=>⟨Hx N (AB N d).c_spec_IsValidValue (AB N d).c_spec_l3List,xAC N (AB N d).c_spec_IsValidValue (AB N d).c_spec_l3List⟩
def KC(N:Nat)(a0:Val):Option (Bool):=(AB N N).c_spec_IsValidValue a0
def xN6(a0:List Val):List Arg:=[.val (vS .ro .val a0)]
def xAE(r:Val×Bool):CallO:=⟨.tup [(true,(Va .own r.1)),(false,[.bool r.2])],[],[]⟩
def Cc(N:Nat):Nat->(List Val)->Int->Val->Option (Val×Bool)
 |0,_,_,_=>none
 |n+1,x0,x4,b2=>bif(decide (x4<(x0.length:Int))) then(if(0:Int)<=x4/\x4<x0.length then(KC N (x0.getD x4.toNat Dv)).bind fun r1=>bif(!r1) then((yV N 4).bind fun r2=>some (r2,true)) else(bif(((Val.kind (x0.getD x4.toNat Dv)):Int)==6) then((yV N (Val.n (x0.getD x4.toNat Dv))).bind fun r2=>some (r2,true)) else((Cc N n x0 (i64.wrap (x4+1)) b2))) else none) else(some ((Val.mk 0 0 0 [] [] [] []),false))
def Ez(N:Nat)(a0:List Val):Option (Val×Bool):=(Cc N N a0 0 (Val.mk 0 0 0 [] [] [] []))
def xM2(a0:Int):List Arg:=[.val (vI a0)]
def xM3(r:Val):CallO:=(cO (vV .own r))
def AT(N:Nat)(a0:Int):Option (Val):=some (Val.mk 1 a0 0 [] [] [] [])
def xMU(a0:Val):List Arg:=[.val (vV .ro a0)]
def xMW(r:Val):CallO:=(cO (vV .own r))
def Hz(N:Nat)(a0:Val):Option (Val):=(Ez N [a0.re]).bind fun r1=>bif r1.2 then(some r1.1) else(bif(a0.kind==3) then((AT N (a0.list.length:Int)).bind fun r2=>some r2) else(bif(a0.kind==2) then((AT N (a0.text.length:Int)).bind fun r2=>some r2) else((yV N 4).bind fun r2=>some r2)))
def xMm(a0:Int):List Arg:=[.val (vI a0)]
def xMn(r:Val):CallO:=(cO (vV .own r))
def DW(N:Nat)(a0:Int):Option (Val):=(BW N a0).bind fun r1=>bif(!r1) then((yV N 5).bind fun r2=>some r2) else((AT N a0).bind fun r2=>some r2)
def xNa(a0:Val):List Arg:=[.val (vV .ro a0)]
def xAm(r:Val):CallO:=(cO (vV .own r))
def Bq(N:Nat):Nat->Int->Val->Val->Val->Option (Val)
 |0,_,_,_,_=>none
 |n+1,x6,b1,b2,b5=>bif(decide (x6<(b1.list.length:Int))) then(if(0:Int)<=x6/\x6<b1.list.length then bif(((Val.kind (b1.list.getD x6.toNat Dv)):Int) != 1) then((yV N 4).bind fun r1=>some r1) else((DW N (i64.wrap (b5.n+(Val.n (b1.list.getD x6.toNat Dv))))).bind fun r1=>bif(r1.kind==6) then(some r1) else((Bq N n (i64.wrap (x6+1)) b1 b2 r1))) else none) else(some b5)
def IB(N:Nat)(a0:Val):Option (Val):=(Ez N [a0.re]).bind fun r1=>bif r1.2 then(some r1.1) else(bif(a0.kind != 3) then((yV N 4).bind fun r2=>some r2) else((AT N 0).bind fun r2=>(Bq N N 0 a0 (Val.mk 0 0 0 [] [] [] []) r2)))
def xN9(a0:List Val)(a1:List Int):List Arg:=[.val (vS .ro .val a0),.val (vS .ro .int a1)]
def xAF(r:Val×Bool):CallO:=⟨.tup [(true,(Va .own r.1)),(false,[.bool r.2])],[],[]⟩
def Cd(N:Nat):Nat->(List Val)->(List Int)->Int->Val->Option (Val×Bool)
 |0,_,_,_,_=>none
 |n+1,x0,x1,x8,b4=>bif(decide (x8<(x0.length:Int))) then(if(0:Int)<=x8/\x8<x0.length then if(0:Int)<=x8/\x8<x1.length then bif(((Val.kind (x0.getD x8.toNat Dv)):Int) != (x1.getD x8.toNat Di)) then((yV N 4).bind fun r1=>some (r1,true)) else((Cd N n x0 x1 (i64.wrap (x8+1)) b4)) else none else none) else(some ((Val.mk 0 0 0 [] [] [] []),false))
def Av(N:Nat)(a0:List Val)(a1:List Int):Option (Val×Bool):=(Ez N a0).bind fun r1=>bif r1.2 then(some (r1.1,true)) else((Cd N N a0 a1 0 (Val.mk 0 0 0 [] [] [] [])))
def xMs(a0:Val):List Arg:=[.val (vV .ro a0)]
def xMu(r:Val):CallO:=(cO (vV .own r))
def Ht(N:Nat)(a0:Val):Option (Val):=(Av N [a0.re] [5]).bind fun r1=>bif r1.2 then(some r1.1) else((AT N (a0.rows.length:Int)).bind fun r2=>some r2)
def xN7(a0:Val)(a1:Val):List Arg:=[.val (vV .ro a0),.val (vV .ro a1)]
def xN8(r:Val×Bool):CallO:=⟨.tup [(true,(Va .own r.1)),(false,[.bool r.2])],[],[]⟩
def FA(N:Nat)(a0:Val)(a1:Val):Option (Val×Bool):=(Ez N [a0.re,a1.re]).bind fun r1=>bif r1.2 then(some (r1.1,true)) else(bif(a0.kind != 1) then((yV N 4).bind fun r2=>some (r2,true)) else(bif(a1.kind != 3) then(bif(a1.kind != 4) then((yV N 4).bind fun r2=>some (r2,true)) else(some ((Val.mk 0 0 0 [] [] [] []),false))) else(some ((Val.mk 0 0 0 [] [] [] []),false))))
def xN0(a0:Rowd):List Arg:=[.val (.v true [.sl .ro .int a0.cells,.sl .ro .org a0.frm])]
def xN1(r:Rowd):CallO:=⟨.v true [.sl .own .int (Rowd.cells r),.sl .own .org (Rowd.frm r)],[],[]⟩
def Fz(N:Nat)(a0:Rowd):Option (Rowd):=if 0+a0.cells.length<=Lim then if 0+a0.frm.length<=Lim then some (Rowd.mk ([]++a0.cells) ([]++a0.frm)) else none else none
def KL(a0:Val):List Arg:=[.val (vV .ro a0)]
def Fy(r:Val):CallO:=(cO (vV .own r))
def Da(N:Nat)(q0:Val->Option (Val)):Nat->Int->Val->Val->Val->Option (Val)
 |0,_,_,_,_=>none
 |n+1,x5,b1,b2,b3=>bif(decide (x5<(b1.rows.length:Int))) then(if(0:Int)<=x5/\x5<b1.rows.length then(Fz N (b1.rows.getD x5.toNat Dr)).bind fun r1=>if b3.rows.length+ [r1].length<=Lim then(Da N q0 n (i64.wrap (x5+1)) b1 b2 (Val.mk b3.kind b3.n b3.step b3.text b3.list b3.columns (b3.rows++ [r1]))) else none else none) else(some b3)
def Ey(N:Nat)(q0:Val->Option (Val)):Nat->Int->Val->Val->Val->Option (Val)
 |0,_,_,_,_=>none
 |n+1,x4,b1,b2,b3=>bif(decide (x4<(b1.list.length:Int))) then(if(0:Int)<=x4/\x4<b1.list.length then(q0 (b1.list.getD x4.toNat Dv)).bind fun r1=>if b3.list.length+ [r1.re].length<=Lim then(Ey N q0 n (i64.wrap (x4+1)) b1 b2 (Val.mk b3.kind b3.n b3.step b3.text (b3.list++ [r1.re]) b3.columns b3.rows)) else none else none) else((Da N q0 N 0 b1 b2 b3))
def IJ(N:Nat)(q0:Val->Option (Val))(a0:Val):Option (Val):=if 0+a0.columns.length<=Lim then(Ey N q0 N 0 a0 (Val.mk 0 0 0 [] [] [] []) (Val.mk a0.kind a0.n a0.step a0.text [] ([]++a0.columns) [])) else none
def Db(N:Nat):Nat->Val->Option (Val)
 |0,_=>none
 |d+1,a0=>IJ N (Db N d) a0
def D9(N:Nat)(a0:Val):Option (Val):=Db N N a0
def xM0(a0:Val)(a1:Val):List Arg:=[.val (vV .ro a0),.val (vV .ro a1)]
def xM1(r:Val):CallO:=(cO (vV .own r))
def A4(N:Nat)(a0:Val)(a1:Val):Option (Val):=(FA N a0 a1).bind fun r1=>bif r1.2 then(some r1.1) else(bif(decide (a0.n<0)) then((yV N 5).bind fun r2=>some r2) else(bif(a1.kind==3) then(bif(decide (a0.n>=(a1.list.length:Int))) then((yV N 5).bind fun r2=>some r2) else(if(0:Int)<=a0.n/\a0.n<a1.list.length then(D9 N (a1.list.getD a0.n.toNat Dv)).bind fun r2=>some r2 else none)) else((DW N (i64.wrap (a1.n+(i64.wrap (a0.n*a1.step))))).bind fun r2=>some r2)))
def xNe(a0:Val)(a1:Val):List Arg:=[.val (vV .ro a0),.val (vV .ro a1)]
def xAo(r:Val):CallO:=(cO (vV .own r))
def BF(N:Nat):Nat->Int->Val->Val->Val->Val->Option (Val)
 |0,_,_,_,_,_=>none
 |n+1,x8,b2,b3,b4,b7=>bif(decide (x8<b2.n)) then(bif(b3.kind==3) then(bif(x8==(b3.list.length:Int)) then(some b7) else((AT N x8).bind fun r1=>(A4 N r1 b3).bind fun r2=>bif(r2.kind==6) then(some r2) else(if b7.list.length+ [r2.re].length<=Lim then(BF N n (i64.wrap (x8+1)) b2 b3 b4 (Val.mk b7.kind b7.n b7.step b7.text (b7.list++ [r2.re]) b7.columns b7.rows)) else none))) else((AT N x8).bind fun r1=>(A4 N r1 b3).bind fun r2=>bif(r2.kind==6) then(some r2) else(if b7.list.length+ [r2.re].length<=Lim then(BF N n (i64.wrap (x8+1)) b2 b3 b4 (Val.mk b7.kind b7.n b7.step b7.text (b7.list++ [r2.re]) b7.columns b7.rows)) else none))) else(some b7)
def D5(N:Nat)(a0:Val)(a1:Val):Option (Val):=(FA N a0 a1).bind fun r1=>bif r1.2 then(some r1.1) else((D7 N a0.n 0 8).bind fun r2=>bif(!r2) then((yV N 5).bind fun r3=>some r3) else((BF N N 0 a0 a1 (Val.mk 0 0 0 [] [] [] []) (Val.mk 3 0 0 [] [] [] []))))
def xNE(a0:Int)(a1:Int):List Arg:=[.val (vI a0),.val (vI a1)]
def xNG(r:Int):CallO:=(cO (vI r))
def IG(N:Nat)(a0:Int)(a1:Int):Option (Int):=bif(decide (a0<a1)) then(some a0) else(some a1)
def xMX(a0:List Val):List Arg:=[.val (vS .ro .val a0)]
def xAh(r:Val):CallO:=(cO (vV .own r))
def Eu(N:Nat):Nat->(List Val)->Int->Val->Val->Option (Val)
 |0,_,_,_,_=>none
 |n+1,x0,x4,b2,b3=>bif(decide (x4<(x0.length:Int))) then(if(0:Int)<=x4/\x4<x0.length then(D9 N (x0.getD x4.toNat Dv)).bind fun r1=>if b3.list.length+ [r1.re].length<=Lim then(Eu N n x0 (i64.wrap (x4+1)) b2 (Val.mk b3.kind b3.n b3.step b3.text (b3.list++ [r1.re]) b3.columns b3.rows)) else none else none) else(some b3)
def KF(N:Nat)(a0:List Val):Option (Val):=(Eu N N a0 0 (Val.mk 0 0 0 [] [] [] []) (Val.mk 3 0 0 [] [] [] []))
def xM8(a0:Int)(a1:Int):List Arg:=[.val (vI a0),.val (vI a1)]
def xM9(r:Val):CallO:=(cO (vV .own r))
def Fw(N:Nat)(a0:Int)(a1:Int):Option (Val):=some (Val.mk 4 a0 a1 [] [] [] [])
def xM4(a0:Val)(a1:Val):List Arg:=[.val (vV .ro a0),.val (vV .ro a1)]
def xM6(r:Val):CallO:=(cO (vV .own r))
def D4(N:Nat)(a0:Val)(a1:Val):Option (Val):=(FA N a0 a1).bind fun r1=>bif r1.2 then(some r1.1) else(bif(decide (a0.n<0)) then((yV N 5).bind fun r2=>some r2) else(bif(a1.kind==3) then((IG N a0.n (a1.list.length:Int)).bind fun r2=>if(0:Int)<=r2/\r2<=a1.list.length then(KF N (List.drop r2.toNat a1.list)).bind fun r3=>some r3 else none) else((A4 N a0 a1).bind fun r2=>bif(r2.kind==6) then(some r2) else((Fw N r2.n a1.step).bind fun r3=>some r3))))
def xNv(a0:Val)(a1:Val):List Arg:=[.val (vV .ro a0),.val (vV .ro a1)]
def xNx(r:Val):CallO:=(cO (vV .own r))
def IC(N:Nat)(a0:Val)(a1:Val):Option (Val):=(Av N [a0.re,a1.re] [1,1]).bind fun r1=>bif r1.2 then(some r1.1) else((Fw N a0.n a1.n).bind fun r2=>some r2)
def xM7(a0:Str)(a1:Int):List Arg:=[.val (vT a0),.val (.v false [.int .u8 a1])]
def xAk(r:(List Str)):CallO:=(cO (vS .own .str r))
def Bp(N:Nat):Nat->Str->Int->(List Str)->Int->Int->Option ((List Str))
 |0,_,_,_,_,_=>none
 |n+1,x0,x1,x5,x6,x7=>bif(decide (x7<=(x0.length:Int))) then(bif(x7==(x0.length:Int)) then(if(0:Int)<=x6/\x6<=x7/\x7<=x0.length then if x5.length+ [(List.drop x6.toNat (List.take x7.toNat x0))].length<=Lim then(Bp N n x0 x1 (x5++ [(List.drop x6.toNat (List.take x7.toNat x0))]) (i64.wrap (x7+1)) (i64.wrap (x7+1))) else none else none) else(if(0:Int)<=x7/\x7<x0.length then bif((((x0.getD x7.toNat 0).toNat:Int):Int)==x1) then(if(0:Int)<=x6/\x6<=x7/\x7<=x0.length then if x5.length+ [(List.drop x6.toNat (List.take x7.toNat x0))].length<=Lim then(Bp N n x0 x1 (x5++ [(List.drop x6.toNat (List.take x7.toNat x0))]) (i64.wrap (x7+1)) (i64.wrap (x7+1))) else none else none) else((Bp N n x0 x1 x5 x6 (i64.wrap (x7+1)))) else none)) else(some x5)
def Fv(N:Nat)(a0:Str)(a1:Int):Option ((List Str)):=(Bp N N a0 a1 [] 0 0)
def xMC(a0:List Str)(a1:Str):List Arg:=[.val (vS .ro .str a0),.val (vT a1)]
def xAc(r:Int):CallO:=(cO (vI r))
def D0(N:Nat):Nat->(List Str)->Str->Int->Option (Int)
 |0,_,_,_=>none
 |n+1,x0,x1,x5=>bif(decide (x5<(x0.length:Int))) then(if(0:Int)<=x5/\x5<x0.length then bif(((x0.getD x5.toNat Ds):Str)==x1) then(some x5) else((D0 N n x0 x1 (i64.wrap (x5+1)))) else none) else(some (-1))
def KA(N:Nat)(a0:List Str)(a1:Str):Option (Int):=(D0 N N a0 a1 0)
def xMo(a0:Val)(a1:Str):List Arg:=[.val (vV .ro a0),.val (vT a1)]
def xMp(r:Int):CallO:=(cO (vI r))
def Ac(N:Nat)(a0:Val)(a1:Str):Option (Int):=(KA N a0.columns a1).bind fun r1=>some r1
def xMS(a0:Val)(a1:Val):List Arg:=[.val (vV .ro a0),.val (vV .ro a1)]
def Fu(r:Val):CallO:=(cO (vV .ro r))
def D3(N:Nat)(k12:(List Str)->Int->Val->Val->Val->Option (Val)):Nat->(List Str)->Int->Int->Val->Val->Val->Rowd->Option (Val)
 |0,_,_,_,_,_,_,_=>none
 |n+1,x7,x10,x12,b3,b4,b8,b11=>bif(decide (x12<(x7.length:Int))) then(if(0:Int)<=x10/\x10<b3.rows.length then if(0:Int)<=x12/\x12<x7.length then(Ac N b3 (x7.getD x12.toNat Ds)).bind fun r1=>if(0:Int)<=r1/\r1<(List.length (Rowd.cells (b3.rows.getD x10.toNat Dr))) then if b11.cells.length+ [(List.getD (Rowd.cells (b3.rows.getD x10.toNat Dr)) r1.toNat Di)].length<=Lim then(D3 N k12 n x7 x10 (i64.wrap (x12+1)) b3 b4 b8 (Rowd.mk (b11.cells++ [(List.getD (Rowd.cells (b3.rows.getD x10.toNat Dr)) r1.toNat Di)]) b11.frm)) else none else none else none else none) else(if b8.rows.length+ [b11].length<=Lim then(k12 x7 (i64.wrap (x10+1)) b3 b4 (Val.mk b8.kind b8.n b8.step b8.text b8.list b8.columns (b8.rows++ [b11]))) else none)
def Bn(N:Nat):Nat->(List Str)->Int->Val->Val->Val->Option (Val)
 |0,_,_,_,_,_=>none
 |n+1,x7,x10,b3,b4,b8=>bif(decide (x10<(b3.rows.length:Int))) then(if(0:Int)<=x10/\x10<b3.rows.length then if 0+List.length (Rowd.frm (b3.rows.getD x10.toNat Dr))<=Lim then(D3 N (fun z0 z1 z2 z3 z4=>(Bn N n z0 z1 z2 z3 z4)) N x7 x10 0 b3 b4 b8 (Rowd.mk [] ([]++(Rowd.frm (b3.rows.getD x10.toNat Dr))))) else none else none) else(some b8)
def Bo(N:Nat):Nat->(List Str)->Int->Val->Val->Val->Option (Val)
 |0,_,_,_,_,_=>none
 |n+1,x7,x9,b3,b4,b8=>bif(decide (x9<(x7.length:Int))) then(if(0:Int)<=x9/\x9<x7.length then(Ac N b3 (x7.getD x9.toNat Ds)).bind fun r1=>bif(decide (r1<0)) then((yV N 7).bind fun r2=>some r2) else((Fr N x7).bind fun r2=>bif(!r2) then((yV N 7).bind fun r3=>some r3) else((Bo N n x7 (i64.wrap (x9+1)) b3 b4 b8))) else none) else((Bn N N x7 0 b3 b4 b8))
def Ft(N:Nat)(a0:Val)(a1:Val):Option (Val):=(Av N [a0.re,a1.re] [2,5]).bind fun r1=>bif r1.2 then(some r1.1) else((Fv N a0.text 32).bind fun r2=>(Bo N N r2 0 a1 (Val.mk 0 0 0 [] [] [] []) (Val.mk 5 0 0 [] [] r2 [])))
def xMq(a0:Val)(a1:Val):List Arg:=[.val (vV .ro a0),.val (vV .ro a1)]
def Om(r:Val):CallO:=(cO (vV .own r))
def DX(N:Nat):Nat->Int->Int->Val->Val->Val->Option (Val)
 |0,_,_,_,_,_=>none
 |n+1,x7,x9,b3,b4,b8=>bif(decide (x9<(b3.rows.length:Int))) then(if(0:Int)<=x9/\x9<b3.rows.length then if(0:Int)<=x7/\x7<(List.length (Rowd.cells (b3.rows.getD x9.toNat Dr))) then(AT N (List.getD (Rowd.cells (b3.rows.getD x9.toNat Dr)) x7.toNat Di)).bind fun r1=>if b8.list.length+ [r1.re].length<=Lim then(DX N n x7 (i64.wrap (x9+1)) b3 b4 (Val.mk b8.kind b8.n b8.step b8.text (b8.list++ [r1.re]) b8.columns b8.rows)) else none else none else none) else(some b8)
def Es(N:Nat)(a0:Val)(a1:Val):Option (Val):=(Av N [a0.re,a1.re] [2,5]).bind fun r1=>bif r1.2 then(some r1.1) else((Ac N a1 a0.text).bind fun r2=>bif(decide (r2<0)) then((yV N 7).bind fun r3=>some r3) else(bif(decide ((a1.rows.length:Int)>8)) then((yV N 6).bind fun r3=>some r3) else((DX N N r2 0 a1 (Val.mk 0 0 0 [] [] [] []) (Val.mk 3 0 0 [] [] [] [])))))
def xOa(a0:Val):List Arg:=[.val (vV .ro a0)]
def xAG(r:(List Int)×Bool):CallO:=⟨.tup [(false,[.sl .own .int r.1]),(false,[.bool r.2])],[],[]⟩
def Df(N:Nat):Nat->(List Int)->Int->Val->Option ((List Int)×Bool)
 |0,_,_,_=>none
 |n+1,x4,x5,b1=>bif(decide (x5<(b1.list.length:Int))) then(if(0:Int)<=x5/\x5<b1.list.length then bif(((Val.kind (b1.list.getD x5.toNat Dv)):Int) != 1) then(some (x4,false)) else(if x4.length+ [(Val.n (b1.list.getD x5.toNat Dv))].length<=Lim then(Df N n (x4++ [(Val.n (b1.list.getD x5.toNat Dv))]) (i64.wrap (x5+1)) b1) else none) else none) else(some (x4,(b1.kind==3)))
def IN(N:Nat)(a0:Val):Option ((List Int)×Bool):=(Df N N [] 0 a0)
def xNc(a0:Val)(a1:Val):List Arg:=[.val (vV .ro a0),.val (vV .ro a1)]
def xAn(r:Val):CallO:=(cO (vV .own r))
def Br(N:Nat):Nat->Int->Val->Val->Val->Option (Val)
 |0,_,_,_,_=>none
 |n+1,x8,b3,b4,b7=>bif(decide (x8<(b3.list.length:Int))) then(if(0:Int)<=x8/\x8<b3.list.length then(IN N (b3.list.getD x8.toNat Dv)).bind fun r1=>bif(!r1.2) then((yV N 4).bind fun r2=>some r2) else(bif((r1.1.length:Int) != (b7.columns.length:Int)) then((yV N 4).bind fun r2=>some r2) else(if b7.rows.length+List.length [(Rowd.mk r1.1 [])]<=Lim then(Br N n (i64.wrap (x8+1)) b3 b4 (Val.mk b7.kind b7.n b7.step b7.text b7.list b7.columns (b7.rows++ [(Rowd.mk r1.1 [])]))) else none)) else none) else(some b7)
def Fx(N:Nat)(a0:Val)(a1:Val):Option (Val):=(Av N [a0.re,a1.re] [2,3]).bind fun r1=>bif r1.2 then(some r1.1) else((Fv N a0.text 32).bind fun r2=>(II N r2).bind fun r3=>bif(!r3) then((yV N 7).bind fun r4=>some r4) else((Br N N 0 a1 (Val.mk 0 0 0 [] [] [] []) (Val.mk 5 0 0 [] [] r2 []))))
def xNh(a0:Val)(a1:Val)(a2:Val):List Arg:=[.val (vV .ro a0),.val (vV .ro a1),.val (vV .ro a2)]
def xAp(r:Val):CallO:=(cO (vV .own r))
def Bs(N:Nat):Nat->Int->Int->Val->Val->Val->Val->Option (Val)
 |0,_,_,_,_,_,_=>none
 |n+1,x9,x11,b4,b5,b6,b10=>bif(decide (x11<(b5.rows.length:Int))) then(if(0:Int)<=x11/\x11<b5.rows.length then if(0:Int)<=x9/\x9<(List.length (Rowd.cells (b5.rows.getD x11.toNat Dr))) then bif(((List.getD (Rowd.cells (b5.rows.getD x11.toNat Dr)) x9.toNat Di):Int)==b4.n) then((Fz N (b5.rows.getD x11.toNat Dr)).bind fun r1=>if b10.rows.length+ [r1].length<=Lim then(Bs N n x9 (i64.wrap (x11+1)) b4 b5 b6 (Val.mk b10.kind b10.n b10.step b10.text b10.list b10.columns (b10.rows++ [r1]))) else none) else((Bs N n x9 (i64.wrap (x11+1)) b4 b5 b6 b10)) else none else none) else(some b10)
def Ev(N:Nat)(a0:Val)(a1:Val)(a2:Val):Option (Val):=(Av N [a0.re,a1.re,a2.re] [2,1,5]).bind fun r1=>bif r1.2 then(some r1.1) else((Ac N a2 a0.text).bind fun r2=>bif(decide (r2<0)) then((yV N 7).bind fun r3=>some r3) else(if 0+a2.columns.length<=Lim then(Bs N N r2 0 a1 a2 (Val.mk 0 0 0 [] [] [] []) (Val.mk 5 0 0 [] [] ([]++a2.columns) [])) else none))
def xOi(a0:List Org)(a1:List Org):List Arg:=[.val (vS .ro .org a0),.val (vS .ro .org a1)]
def xAK(r:(List Org)):CallO:=(cO (vS .own .org r))
def AN(N:Nat):Nat->(List Org)->(List Org)->(List Org)->Int->Int->Option ((List Org))
 |0,_,_,_,_,_=>none
 |n+1,x0,x1,x5,x6,x7=>bif(decide (x6<(x0.length:Int))) then(bif(x7==(x1.length:Int)) then(if(0:Int)<=x6/\x6<x0.length then if x5.length+ [(x0.getD x6.toNat Do)].length<=Lim then(AN N n x0 x1 (x5++ [(x0.getD x6.toNat Do)]) (i64.wrap (x6+1)) x7) else none else none) else(if(0:Int)<=x6/\x6<x0.length then if(0:Int)<=x7/\x7<x1.length then(D8 N (x0.getD x6.toNat Do) (x1.getD x7.toNat Do)).bind fun r1=>bif r1 then(if x5.length+ [(x0.getD x6.toNat Do)].length<=Lim then(AN N n x0 x1 (x5++ [(x0.getD x6.toNat Do)]) (i64.wrap (x6+1)) x7) else none) else(bif(x6==(x0.length:Int)) then(if x5.length+ [(x1.getD x7.toNat Do)].length<=Lim then(AN N n x0 x1 (x5++ [(x1.getD x7.toNat Do)]) x6 (i64.wrap (x7+1))) else none) else((D8 N (x1.getD x7.toNat Do) (x0.getD x6.toNat Do)).bind fun r2=>bif r2 then(if x5.length+ [(x1.getD x7.toNat Do)].length<=Lim then(AN N n x0 x1 (x5++ [(x1.getD x7.toNat Do)]) x6 (i64.wrap (x7+1))) else none) else(if x5.length+ [(x0.getD x6.toNat Do)].length<=Lim then(AN N n x0 x1 (x5++ [(x0.getD x6.toNat Do)]) (i64.wrap (x6+1)) (i64.wrap (x7+1))) else none))) else none else none)) else(bif(decide (x7<(x1.length:Int))) then(bif(x7==(x1.length:Int)) then(if(0:Int)<=x6/\x6<x0.length then if x5.length+ [(x0.getD x6.toNat Do)].length<=Lim then(AN N n x0 x1 (x5++ [(x0.getD x6.toNat Do)]) (i64.wrap (x6+1)) x7)
      else none else none) else(bif(x6==(x0.length:Int)) then(if(0:Int)<=x7/\x7<x1.length then if x5.length+ [(x1.getD x7.toNat Do)].length<=Lim then(AN N n x0 x1 (x5++ [(x1.getD x7.toNat Do)]) x6 (i64.wrap (x7+1))) else none else none) else(if(0:Int)<=x7/\x7<x1.length then if(0:Int)<=x6/\x6<x0.length then(D8 N (x1.getD x7.toNat Do) (x0.getD x6.toNat Do)).bind fun r1=>bif r1 then(if x5.length+ [(x1.getD x7.toNat Do)].length<=Lim then(AN N n x0 x1 (x5++ [(x1.getD x7.toNat Do)]) x6 (i64.wrap (x7+1))) else none) else(if x5.length+ [(x0.getD x6.toNat Do)].length<=Lim then(AN N n x0 x1 (x5++ [(x0.getD x6.toNat Do)]) (i64.wrap (x6+1)) (i64.wrap (x7+1))) else none) else none else none))) else(some x5))
def GA(N:Nat)(a0:List Org)(a1:List Org):Option ((List Org)):=(AN N N a0 a1 [] 0 0)
def xOf(a0:List Rowd)(a1:Int)(a2:Int)(a3:List Org):List Arg:=[.val (vS .ro .row a0),.val (vI a1),.val (vI a2),.val (vS .ro .org a3)]
def xAH(r:(List Rowd)):CallO:=(cO (vS .tip .row r))
def A5(N:Nat):Nat->(List Rowd)->Int->Int->(List Org)->(List Rowd)->Bool->Int->Option ((List Rowd))
 |0,_,_,_,_,_,_,_=>none
 |n+1,x0,x1,x2,x3,x9,x10,x11=>bif(decide (x11<(x0.length:Int))) then(if(0:Int)<=x11/\x11<x0.length then if(0:Int)<=0/\(0:Int)<(List.length (Rowd.cells (x0.getD x11.toNat Dr))) then bif(((List.getD (Rowd.cells (x0.getD x11.toNat Dr)) (Int.toNat 0) Di):Int)==x1) then(if(0:Int)<=1/\(1:Int)<(List.length (Rowd.cells (x0.getD x11.toNat Dr))) then(GA N (Rowd.frm (x0.getD x11.toNat Dr)) x3).bind fun r1=>if(0:Int)<=0/\(0:Int)<([x1,(i64.wrap ((List.getD (Rowd.cells (x0.getD x11.toNat Dr)) (Int.toNat 1) Di)+x2))].length) then bif(decide (((List.getD [x1,(i64.wrap ((List.getD (Rowd.cells (x0.getD x11.toNat Dr)) (Int.toNat 1) Di)+x2))] (Int.toNat 0) Di):Int)>x1)) then(if x9.length+List.length [(Rowd.mk [x1,(i64.wrap ((List.getD (Rowd.cells (x0.getD x11.toNat Dr)) (Int.toNat 1) Di)+x2))] r1)]<=Lim then(A5 N n x0 x1 x2 x3 (x9++ [(Rowd.mk [x1,(i64.wrap ((List.getD (Rowd.cells (x0.getD x11.toNat Dr)) (Int.toNat 1) Di)+x2))] r1)]) true (i64.wrap (x11+1))) else none) else(if x9.length+List.length [(Rowd.mk [x1,(i64.wrap ((List.getD (Rowd.cells (x0.getD x11.toNat Dr)) (Int.toNat 1) Di)+x2))] r1)]<=Lim then(A5 N n x0 x1 x2 x3 (x9++ [(Rowd.mk [x1,(i64.wrap ((List.getD (Rowd.cells (x0.getD x11.toNat Dr)) (Int.toNat 1) Di)+x2))] r1)]) true (i64.wrap (x11+1))) else none) else none else none) else(bif(decide (((List.getD (Rowd.cells (x0.getD x11.toNat Dr)) (Int.toNat 0) Di):Int)>x1)) then(bif(!x10) then(if 0+x3.length<=Lim then if x9.length+List.length [(Rowd.mk [x1,x2] ([]++x3))]<=Lim then
       if List.length (x9++ [(Rowd.mk [x1,x2] ([]++x3))])+ [(x0.getD x11.toNat Dr)].length<=Lim then(A5 N n x0 x1 x2 x3 ((x9++ [(Rowd.mk [x1,x2] ([]++x3))])++ [(x0.getD x11.toNat Dr)]) true (i64.wrap (x11+1))) else none else none else none) else(if x9.length+ [(x0.getD x11.toNat Dr)].length<=Lim then(A5 N n x0 x1 x2 x3 (x9++ [(x0.getD x11.toNat Dr)]) x10 (i64.wrap (x11+1))) else none)) else(if x9.length+ [(x0.getD x11.toNat Dr)].length<=Lim then(A5 N n x0 x1 x2 x3 (x9++ [(x0.getD x11.toNat Dr)]) x10 (i64.wrap (x11+1))) else none)) else none else none) else(bif(!x10) then(if 0+x3.length<=Lim then if x9.length+List.length [(Rowd.mk [x1,x2] ([]++x3))]<=Lim then some (x9++ [(Rowd.mk [x1,x2] ([]++x3))]) else none else none) else(some x9))
def KR(N:Nat)(a0:List Rowd)(a1:Int)(a2:Int)(a3:List Org):Option ((List Rowd)):=(A5 N N a0 a1 a2 a3 [] false 0)
def xMA(a0:Val)(a1:Val)(a2:Val):List Arg:=[.val (vV .ro a0),.val (vV .ro a1),.val (vV .ro a2)]
def Jz(r:Val):CallO:=(cO (vV .ro r))
def C6(N:Nat):Nat->Int->Val->Val->Option (Val)
 |0,_,_,_=>none
 |n+1,x13,b6,b11=>bif(decide (x13<(b11.rows.length:Int))) then(if(0:Int)<=x13/\x13<b11.rows.length then if(0:Int)<=1/\(1:Int)<(List.length (Rowd.cells (b11.rows.getD x13.toNat Dr))) then(BW N (List.getD (Rowd.cells (b11.rows.getD x13.toNat Dr)) (Int.toNat 1) Di)).bind fun r1=>bif(!r1) then((yV N 5).bind fun r2=>some r2) else((C6 N n (i64.wrap (x13+1)) b6 b11)) else none else none) else(some b11)
def DZ(N:Nat):Nat->Int->Int->Int->Val->Val->Val->Option (Val)
 |0,_,_,_,_,_,_=>none
 |n+1,x9,x10,x12,b5,b6,b11=>bif(decide (x12<(b5.rows.length:Int))) then(if(0:Int)<=x12/\x12<b5.rows.length then if(0:Int)<=x9/\x9<(List.length (Rowd.cells (b5.rows.getD x12.toNat Dr))) then if(0:Int)<=x10/\x10<(List.length (Rowd.cells (b5.rows.getD x12.toNat Dr))) then(KR N b11.rows (List.getD (Rowd.cells (b5.rows.getD x12.toNat Dr)) x9.toNat Di) (List.getD (Rowd.cells (b5.rows.getD x12.toNat Dr)) x10.toNat Di) (Rowd.frm (b5.rows.getD x12.toNat Dr))).bind fun r1=>(DZ N n x9 x10 (i64.wrap (x12+1)) b5 b6 (Val.mk b11.kind b11.n b11.step b11.text b11.list b11.columns r1)) else none else none else none) else((C6 N N 0 b6 b11))
def C5(N:Nat)(a0:Val)(a1:Val)(a2:Val):Option (Val):=(Av N [a0.re,a1.re,a2.re] [2,2,5]).bind fun r1=>bif r1.2 then(some r1.1) else((Ac N a2 a0.text).bind fun r2=>(Ac N a2 a1.text).bind fun r3=>bif(decide (r2<0)) then((yV N 7).bind fun r4=>some r4) else(bif(decide (r3<0)) then((yV N 7).bind fun r4=>some r4) else(bif(r2==r3) then((yV N 7).bind fun r4=>some r4) else((DZ N N r2 r3 0 a2 (Val.mk 0 0 0 [] [] [] []) (Val.mk 5 0 0 [] [] [a0.text,a1.text] []))))))
def xOc(a0:Rowd)(a1:Rowd)(a2:Int):List Arg:=[.val (.v true [.sl .ro .int a0.cells,.sl .ro .org a0.frm]),.val (.v true [.sl .ro .int a1.cells,.sl .ro .org a1.frm]),.val (vI a2)]
def xOe(r:Rowd):CallO:=⟨.v true [.sl .own .int (Rowd.cells r),.sl .own .org (Rowd.frm r)],[],[]⟩
def IP(N:Nat)(a0:Rowd)(a1:Rowd)(a2:Int):Option (Rowd):=if 0+a0.cells.length<=Lim then(GA N a0.frm a1.frm).bind fun r1=>if(0:Int)<=a2/\a2<=a1.cells.length then if List.length ([]++a0.cells)+List.length (List.take a2.toNat a1.cells)<=Lim then if(0:Int)<=(i64.wrap (a2+1))/\(i64.wrap (a2+1))<=a1.cells.length then if List.length (([]++a0.cells)++(List.take a2.toNat a1.cells))+List.length (List.drop (Int.toNat (i64.wrap (a2+1))) a1.cells)<=Lim then some (Rowd.mk ((([]++a0.cells)++(List.take a2.toNat a1.cells))++(List.drop (Int.toNat (i64.wrap (a2+1))) a1.cells)) r1) else none else none else none else none else none
def xMQ(a0:Val)(a1:Val)(a2:Val):List Arg:=[.val (vV .ro a0),.val (vV .ro a1),.val (vV .ro a2)]
def Hy(r:Val):CallO:=(cO (vV .own r))
def D2(N:Nat)(k15:Int->Int->Int->Val->Val->Val->Val->Option (Val)):Nat->Int->Int->Int->Int->Val->Val->Val->Val->Option (Val)
 |0,_,_,_,_,_,_,_,_=>none
 |n+1,x9,x10,x12,x13,b4,b5,b6,b11=>bif(decide (x13<(b5.rows.length:Int))) then(if(0:Int)<=x12/\x12<b4.rows.length then if(0:Int)<=x9/\x9<(List.length (Rowd.cells (b4.rows.getD x12.toNat Dr))) then if(0:Int)<=x13/\x13<b5.rows.length then if(0:Int)<=x10/\x10<(List.length (Rowd.cells (b5.rows.getD x13.toNat Dr))) then bif(((List.getD (Rowd.cells (b4.rows.getD x12.toNat Dr)) x9.toNat Di):Int)==(List.getD (Rowd.cells (b5.rows.getD x13.toNat Dr)) x10.toNat Di)) then((IP N (b4.rows.getD x12.toNat Dr) (b5.rows.getD x13.toNat Dr) x10).bind fun r1=>if b11.rows.length+ [r1].length<=Lim then(D2 N k15 n x9 x10 x12 (i64.wrap (x13+1)) b4 b5 b6 (Val.mk b11.kind b11.n b11.step b11.text b11.list b11.columns (b11.rows++ [r1]))) else none) else((D2 N k15 n x9 x10 x12 (i64.wrap (x13+1)) b4 b5 b6 b11)) else none else none else none else none) else((k15 x9 x10 (i64.wrap (x12+1)) b4 b5 b6 b11))
def C8(N:Nat):Nat->Int->Int->Int->Val->Val->Val->Val->Option (Val)
 |0,_,_,_,_,_,_,_=>none
 |n+1,x9,x10,x12,b4,b5,b6,b11=>bif(decide (x12<(b4.rows.length:Int))) then((D2 N (fun z0 z1 z2 z3 z4 z5 z6=>(C8 N n z0 z1 z2 z3 z4 z5 z6)) N x9 x10 x12 0 b4 b5 b6 b11)) else(bif(decide ((b11.rows.length:Int)>12)) then((yV N 6).bind fun r1=>some r1) else(some b11))
def D1(N:Nat)(a0:Val)(a1:Val)(a2:Val):Option (Val):=(Av N [a0.re,a1.re,a2.re] [2,5,5]).bind fun r1=>bif r1.2 then(some r1.1) else((Ac N a1 a0.text).bind fun r2=>(Ac N a2 a0.text).bind fun r3=>bif(decide (r2<0)) then((yV N 7).bind fun r4=>some r4) else(bif(decide (r3<0)) then((yV N 7).bind fun r4=>some r4) else(if 0+a1.columns.length<=Lim then if(0:Int)<=r3/\r3<=a2.columns.length then if List.length ([]++a1.columns)+List.length (List.take r3.toNat a2.columns)<=Lim then if(0:Int)<=(i64.wrap (r3+1))/\(i64.wrap (r3+1))<=a2.columns.length then if List.length (([]++a1.columns)++(List.take r3.toNat a2.columns))+List.length (List.drop (Int.toNat (i64.wrap (r3+1))) a2.columns)<=Lim then(Fr N ((([]++a1.columns)++(List.take r3.toNat a2.columns))++(List.drop (Int.toNat (i64.wrap (r3+1))) a2.columns))).bind fun r4=>bif(!r4) then((yV N 7).bind fun r5=>some r5) else(bif(decide (((List.length ((([]++a1.columns)++(List.take r3.toNat a2.columns))++(List.drop (Int.toNat (i64.wrap (r3+1))) a2.columns)):Int):Int)>4)) then((yV N 6).bind fun r5=>some r5) else((C8 N N r2 r3 0 a1 a2 (Val.mk 0 0 0 [] [] [] []) (Val.mk 5 0 0 [] [] ((([]++a1.columns)++(List.take r3.toNat a2.columns))++(List.drop (Int.toNat (i64.wrap (r3+1))) a2.columns)) [])))) else none else none else none else none else none)))
def xMd(a0:Val)(a1:Val)(a2:Val)(a3:Val):List Arg:=[.val (vV .ro a0),.val (vV .ro a1),.val (vV .ro a2),.val (vV .ro a3)]
def Oi(r:Val):CallO:=(cO (vV .own r))
def C4(N:Nat):Nat->Int->Int->Int->Val->Val->Val->Option (Val)
 |0,_,_,_,_,_,_=>none
 |n+1,x11,x12,x14,b7,b8,b13=>bif(decide (x14<(b13.rows.length:Int))) then(if(0:Int)<=x14/\x14<b7.rows.length then if(0:Int)<=x11/\x11<(List.length (Rowd.cells (b7.rows.getD x14.toNat Dr))) then if(0:Int)<=x12/\x12<(List.length (Rowd.cells (b7.rows.getD x14.toNat Dr))) then(BW N (i64.wrap ((List.getD (Rowd.cells (b7.rows.getD x14.toNat Dr)) x11.toNat Di)+(List.getD (Rowd.cells (b7.rows.getD x14.toNat Dr)) x12.toNat Di)))).bind fun r1=>bif(!r1) then((yV N 5).bind fun r2=>some r2) else(if(0:Int)<=x14/\x14<b13.rows.length then if List.length (Rowd.cells (b13.rows.getD x14.toNat Dr))+ [(i64.wrap ((List.getD (Rowd.cells (b7.rows.getD x14.toNat Dr)) x11.toNat Di)+(List.getD (Rowd.cells (b7.rows.getD x14.toNat Dr)) x12.toNat Di)))].length<=Lim then(C4 N n x11 x12 (i64.wrap (x14+1)) b7 b8 (Val.mk b13.kind b13.n b13.step b13.text b13.list b13.columns (b13.rows.set x14.toNat (Rowd.mk ((Rowd.cells (b13.rows.getD x14.toNat Dr))++ [(i64.wrap ((List.getD (Rowd.cells (b7.rows.getD x14.toNat Dr)) x11.toNat Di)+(List.getD (Rowd.cells (b7.rows.getD x14.toNat Dr)) x12.toNat Di)))]) (Rowd.frm (b13.rows.getD x14.toNat Dr)))))) else none else none) else none else none else none) else(some b13)
def BU(N:Nat)(a0:Val)(a1:Val)(a2:Val)(a3:Val):Option (Val):=(Av N [a0.re,a1.re,a2.re,a3.re] [2,2,2,5]).bind fun r1=>bif r1.2 then(some r1.1) else((Ac N a3 a1.text).bind fun r2=>(Ac N a3 a2.text).bind fun r3=>(Fs N a0.text).bind fun r4=>bif(!r4) then((yV N 7).bind fun r5=>some r5) else((Ac N a3 a0.text).bind fun r5=>bif(decide (r5>=0)) then((yV N 7).bind fun r6=>some r6) else(bif(decide (r2<0)) then((yV N 7).bind fun r6=>some r6) else(bif(decide (r3<0)) then((yV N 7).bind fun r6=>some r6) else(bif((a3.columns.length:Int)==4) then((yV N 6).bind fun r6=>some r6) else((D9 N a3).bind fun r6=>if r6.columns.length+ [a0.text].length<=Lim then(C4 N N r2 r3 0 a3 (Val.mk 0 0 0 [] [] [] []) (Val.mk r6.kind r6.n r6.step r6.text r6.list (r6.columns++ [a0.text]) r6.rows)) else none))))))
def xMj(a0:Str)(a1:List Val):List Arg:=[.val (vT a0),.val (vS .ro .val a1)]
def xMl(r:Val):CallO:=(cO (vV .ro r))
def Bm(N:Nat)(a0:Str)(a1:List Val):Option (Val):=(Bl N a0).bind fun r1=>bif((a1.length:Int) != r1) then((yV N 4).bind fun r2=>some r2) else(bif((a0:Str)== [108,101,110]) then(if(0:Int)<=0/\(0:Int)<a1.length then(Hz N (a1.getD (Int.toNat 0) Dv)).bind fun r2=>some r2 else none) else(bif((a0:Str)== [115,117,109]) then(if(0:Int)<=0/\(0:Int)<a1.length then(IB N (a1.getD (Int.toNat 0) Dv)).bind fun r2=>some r2 else none) else(bif((a0:Str)== [114,111,119,115]) then(if(0:Int)<=0/\(0:Int)<a1.length then(Ht N (a1.getD (Int.toNat 0) Dv)).bind fun r2=>some r2 else none) else(bif((a0:Str)== [116,97,107,101]) then(if(0:Int)<=0/\(0:Int)<a1.length then if(0:Int)<=1/\(1:Int)<a1.length then(D5 N (a1.getD (Int.toNat 0) Dv) (a1.getD (Int.toNat 1) Dv)).bind fun r2=>some r2 else none else none) else(bif((a0:Str)== [115,107,105,112]) then(if(0:Int)<=0/\(0:Int)<a1.length then if(0:Int)<=1/\(1:Int)<a1.length then(D4 N (a1.getD (Int.toNat 0) Dv) (a1.getD (Int.toNat 1) Dv)).bind fun r2=>some r2 else none else none) else(bif((a0:Str)== [110,116,104]) then(if(0:Int)<=0/\(0:Int)<a1.length then if(0:Int)<=1/\(1:Int)<a1.length then(A4 N (a1.getD (Int.toNat 0) Dv) (a1.getD (Int.toNat 1) Dv)).bind fun r2=>some r2 else none else none) else(bif((a0:Str)== [114,97,110,103,101]) then(if(0:Int)<=0/\(0:Int)<a1.length then if(0:Int)<=1/\(1:Int)<a1.length then(IC N (a1.getD (Int.toNat 0) Dv) (a1.getD (Int.toNat 1) Dv)).bind fun r2=>
     some r2 else none else none) else(bif((a0:Str)== [107,101,101,112]) then(if(0:Int)<=0/\(0:Int)<a1.length then if(0:Int)<=1/\(1:Int)<a1.length then(Ft N (a1.getD (Int.toNat 0) Dv) (a1.getD (Int.toNat 1) Dv)).bind fun r2=>some r2 else none else none) else(bif((a0:Str)== [99,111,108,117,109,110]) then(if(0:Int)<=0/\(0:Int)<a1.length then if(0:Int)<=1/\(1:Int)<a1.length then(Es N (a1.getD (Int.toNat 0) Dv) (a1.getD (Int.toNat 1) Dv)).bind fun r2=>some r2 else none else none) else(bif((a0:Str)== [116,97,98,108,101]) then(if(0:Int)<=0/\(0:Int)<a1.length then if(0:Int)<=1/\(1:Int)<a1.length then(Fx N (a1.getD (Int.toNat 0) Dv) (a1.getD (Int.toNat 1) Dv)).bind fun r2=>some r2 else none else none) else(bif((a0:Str)== [119,104,101,114,101]) then(if(0:Int)<=0/\(0:Int)<a1.length then if(0:Int)<=1/\(1:Int)<a1.length then if(0:Int)<=2/\(2:Int)<a1.length then(Ev N (a1.getD (Int.toNat 0) Dv) (a1.getD (Int.toNat 1) Dv) (a1.getD (Int.toNat 2) Dv)).bind fun r2=>some r2 else none else none else none) else(bif((a0:Str)== [103,114,111,117,112]) then(if(0:Int)<=0/\(0:Int)<a1.length then if(0:Int)<=1/\(1:Int)<a1.length then if(0:Int)<=2/\(2:Int)<a1.length then(C5 N (a1.getD (Int.toNat 0) Dv) (a1.getD (Int.toNat 1) Dv) (a1.getD (Int.toNat 2) Dv)).bind fun r2=>some r2 else none else none else none) else(bif((a0:Str)== [106,111,105,110]) then(if(0:Int)<=0/\(0:Int)<a1.length then if(0:Int)<=1/\(1:Int)<a1.length then
              if(0:Int)<=2/\(2:Int)<a1.length then(D1 N (a1.getD (Int.toNat 0) Dv) (a1.getD (Int.toNat 1) Dv) (a1.getD (Int.toNat 2) Dv)).bind fun r2=>some r2 else none else none else none) else(bif((a0:Str)== [97,100,100]) then(if(0:Int)<=0/\(0:Int)<a1.length then if(0:Int)<=1/\(1:Int)<a1.length then if(0:Int)<=2/\(2:Int)<a1.length then if(0:Int)<=3/\(3:Int)<a1.length then(BU N (a1.getD (Int.toNat 0) Dv) (a1.getD (Int.toNat 1) Dv) (a1.getD (Int.toNat 2) Dv) (a1.getD (Int.toNat 3) Dv)).bind fun r2=>some r2 else none else none else none else none) else((yV N 4).bind fun r2=>some r2)))))))))))))))
def xIa(a0:Str):List Arg:=[.val (vT a0)]
def xIc(r:Bool):CallO:=(cO (vB r))
def Gs(N:Nat)(a0:Str):Option (Bool):=bif((a0:Str)== [99,108,111,99,107]) then(some true) else(bif((a0:Str)== [99,104,97,110,99,101]) then(some true) else(some ((a0:Str)== [102,105,108,101])))
def xGq(a0:Str):List Arg:=[.val (vT a0)]
def xGs(r:Int):CallO:=(cO (vI r))
def Du(N:Nat)(a0:Str):Option (Int):=bif((a0:Str)== [99,108,111,99,107]) then(some 0) else(bif((a0:Str)== [108,101,110]) then(some 1) else(bif((a0:Str)== [115,117,109]) then(some 1) else(bif((a0:Str)== [114,111,119,115]) then(some 1) else(bif((a0:Str)== [99,104,97,110,99,101]) then(some 1) else(bif((a0:Str)== [102,105,108,101]) then(some 1) else(bif((a0:Str)== [116,97,107,101]) then(some 2) else(bif((a0:Str)== [115,107,105,112]) then(some 2) else(bif((a0:Str)== [114,97,110,103,101]) then(some 2) else(bif((a0:Str)== [110,116,104]) then(some 2) else(bif((a0:Str)== [107,101,101,112]) then(some 2) else(bif((a0:Str)== [99,111,108,117,109,110]) then(some 2) else(bif((a0:Str)== [116,97,98,108,101]) then(some 2) else(bif((a0:Str)== [119,104,101,114,101]) then(some 3) else(bif((a0:Str)== [103,114,111,117,112]) then(some 3) else(bif((a0:Str)== [106,111,105,110]) then(some 3) else(bif((a0:Str)== [97,100,100]) then(some 4) else(some (-1))))))))))))))))))
def xGN(a0:Int):List Arg:=[.val (vI a0)]
def xGO(r:Val):CallO:=(cO (vV .own r))
def yT(N:Nat)(a0:Int):Option (Val):=some (Val.mk 6 a0 0 [] [] [] [])
def xIL(a0:Int)(a1:Int)(a2:Int):List Arg:=[.val (vI a0),.val (vI a1),.val (vI a2)]
def xIM(r:Bool):CallO:=(cO (vB r))
def Bg(N:Nat)(a0:Int)(a1:Int)(a2:Int):Option (Bool):=bif(decide (a1<=a0)) then(some (decide (a0<=a2))) else(some false)
def xId(a0:Int):List Arg:=[.val (vI a0)]
def xIe(r:Bool):CallO:=(cO (vB r))
def BP(N:Nat)(a0:Int):Option (Bool):=(Bg N a0 (-1000000000) 1000000000).bind fun r1=>some r1
def xG0(a0:Str):List Arg:=[.val (vT a0)]
def Mv(r:Bool):CallO:=(cO (vB r))
def FSq(N:Nat):Nat->Str->Int->Option (Bool)
 |0,_,_=>none
 |n+1,x0,x3=>bif(decide (x3<(x0.length:Int))) then(if(0:Int)<=x3/\x3<x0.length then bif(decide ((((x0.getD x3.toNat 0).toNat:Int):Int)<32)) then(some false) else(bif(decide ((((x0.getD x3.toNat 0).toNat:Int):Int)>126)) then(some false) else(bif((((x0.getD x3.toNat 0).toNat:Int):Int)==34) then(some false) else((FSq N n x0 (i64.wrap (x3+1)))))) else none) else(some (decide ((x0.length:Int)<=20)))
def It(N:Nat)(a0:Str):Option (Bool):=(FSq N N a0 0)
def xIj(a0:Str):List Arg:=[.val (vT a0)]
def NN(r:Bool):CallO:=(cO (vB r))
def Bc(N:Nat):Nat->Str->Int->Option (Bool)
 |0,_,_=>none
 |n+1,x0,x3=>bif(decide (x3<(x0.length:Int))) then(if(0:Int)<=x3/\x3<x0.length then bif(decide ((((x0.getD x3.toNat 0).toNat:Int):Int)>=97)) then(bif(!(decide ((((x0.getD x3.toNat 0).toNat:Int):Int)<=122))) then(bif(x3==0) then(some false) else(bif(decide ((((x0.getD x3.toNat 0).toNat:Int):Int)<48)) then(some false) else(bif(decide ((((x0.getD x3.toNat 0).toNat:Int):Int)>57)) then(some false) else((Bc N n x0 (i64.wrap (x3+1))))))) else((Bc N n x0 (i64.wrap (x3+1))))) else(bif(x3==0) then(some false) else(bif(decide ((((x0.getD x3.toNat 0).toNat:Int):Int)<48)) then(some false) else(bif(decide ((((x0.getD x3.toNat 0).toNat:Int):Int)>57)) then(some false) else((Bc N n x0 (i64.wrap (x3+1))))))) else none) else((Bg N (x0.length:Int) 1 8).bind fun r1=>some r1)
def JC(N:Nat)(a0:Str):Option (Bool):=(Bc N N a0 0)
def xGU(a0:Str):List Arg:=[.val (vT a0)]
def xGX(r:Bool):CallO:=(cO (vB r))
def G8(N:Nat)(a0:Str):Option (Bool):=bif((a0:Str)== [108,101,116]) then(some true) else(bif((a0:Str)== [105,110]) then(some true) else(bif((a0:Str)== [105,102]) then(some true) else(bif((a0:Str)== [116,104,101,110]) then(some true) else(bif((a0:Str)== [101,108,115,101]) then(some true) else(bif((a0:Str)== [102,111,114]) then(some true) else(bif((a0:Str)== [100,111]) then(some true) else((Du N a0).bind fun r1=>some (decide (r1>=0)))))))))
def xGY(a0:Str):List Arg:=[.val (vT a0)]
def xGZ(r:Bool):CallO:=(cO (vB r))
def Dy(N:Nat)(a0:Str):Option (Bool):=(JC N a0).bind fun r1=>bif r1 then((G8 N a0).bind fun r2=>some (!r2)) else(some false)
def xGT(a0:List Str)(a1:Str):List Arg:=[.val (vS .ro .str a0),.val (vT a1)]
def Mt(r:Int):CallO:=(cO (vI r))
def Cq(N:Nat):Nat->Str->(List Str)->Int->Int->Option (Int)
 |0,_,_,_,_=>none
 |n+1,x1,x7,x8,x9=>bif(decide (x9<x8)) then(if(0:Int)<=x9/\x9<x7.length then bif(((x7.getD x9.toNat Ds):Str)==x1) then(some x9) else((Cq N n x1 x7 x8 (i64.wrap (x9+1)))) else none) else(some (-1))
def FR(N:Nat)(a0:List Str)(a1:Str):Option (Int):=(Cq N N a1 a0 (a0.length:Int) 0)
def xGp(a0:List Str):List Arg:=[.val (vS .ro .str a0)]
def Mm(r:Bool):CallO:=(cO (vB r))
def Co(N:Nat):Nat->(List Str)->(List Str)->Int->Int->Option (Bool)
 |0,_,_,_,_=>none
 |n+1,x0,x5,x6,x7=>bif(decide (x7<x6)) then(if(0:Int)<=x7/\x7<x5.length then(FR N x0 (x5.getD x7.toNat Ds)).bind fun r1=>bif(r1 != x7) then(some false) else((Co N n x0 x5 x6 (i64.wrap (x7+1)))) else none) else(some true)
def Dt(N:Nat)(a0:List Str):Option (Bool):=(Co N N a0 a0 (a0.length:Int) 0)
def xHZ(a0:List Str):List Arg:=[.val (vS .ro .str a0)]
def NG(r:Bool):CallO:=(cO (vB r))
def EC(N:Nat):Nat->(List Str)->(List Str)->Int->Int->Option (Bool)
 |0,_,_,_,_=>none
 |n+1,x0,x5,x6,x7=>bif(decide (x7<x6)) then(if(0:Int)<=x7/\x7<x5.length then(Dy N (x5.getD x7.toNat Ds)).bind fun r1=>bif(!r1) then(some false) else((EC N n x0 x5 x6 (i64.wrap (x7+1)))) else none) else((Bg N (x0.length:Int) 1 4).bind fun r1=>bif r1 then((Dt N x0).bind fun r2=>some r2) else(some false))
def FX(N:Nat)(a0:List Str):Option (Bool):=(EC N N a0 a0 (a0.length:Int) 0)
def xIf(a0:Val):List Arg:=[.val (vV .ro a0)]
def EE(r:Bool):CallO:=(cO (vB r))
def CL(N:Nat)(k4:(List Rowd)->Int->Int->Val->Option (Bool)):Nat->(List Rowd)->Int->Int->(List Org)->Int->Int->Val->Rowd->Option (Bool)
 |0,_,_,_,_,_,_,_,_=>none
 |n+1,x20,x21,x22,x45,x46,x47,b1,b4=>bif(decide (x47<x46)) then(if(0:Int)<=x47/\x47<x45.length then bif(decide (((Org.cell (x45.getD x47.toNat Do)):Int)<0)) then(some false) else(bif(decide (((Org.row (x45.getD x47.toNat Do)):Int)<0)) then(some false) else(bif(decide (x47>0)) then(if(0:Int)<=(i64.wrap (x47 - 1))/\(i64.wrap (x47 - 1))<b4.frm.length then(EG N (b4.frm.getD (Int.toNat (i64.wrap (x47 - 1))) Do) (x45.getD x47.toNat Do)).bind fun r1=>bif(!r1) then(some false) else((CL N k4 n x20 x21 x22 x45 x46 (i64.wrap (x47+1)) b1 b4)) else none) else((CL N k4 n x20 x21 x22 x45 x46 (i64.wrap (x47+1)) b1 b4)))) else none) else((k4 x20 x21 (i64.wrap (x22+1)) b1))
def DD(N:Nat)(k4:(List Rowd)->Int->Int->Val->Option (Bool)):Nat->(List Rowd)->Int->Int->(List Int)->Int->Int->Val->Rowd->Option (Bool)
 |0,_,_,_,_,_,_,_,_=>none
 |n+1,x20,x21,x22,x34,x35,x36,b1,b4=>bif(decide (x36<x35)) then(if(0:Int)<=x36/\x36<x34.length then(BP N (x34.getD x36.toNat Di)).bind fun r1=>bif(!r1) then(some false) else((DD N k4 n x20 x21 x22 x34 x35 (i64.wrap (x36+1)) b1 b4)) else none) else((CL N k4 N x20 x21 x22 b4.frm (b4.frm.length:Int) 0 b1 b4))
def DC(N:Nat):Nat->(List Rowd)->Int->Int->Val->Option (Bool)
 |0,_,_,_,_=>none
 |n+1,x20,x21,x22,b1=>bif(decide (x22<x21)) then(if(0:Int)<=x22/\x22<x20.length then bif(((List.length (Rowd.cells (x20.getD x22.toNat Dr)):Int):Int) != (b1.columns.length:Int)) then(some false) else((DD N (fun z0 z1 z2 z3=>(DC N n z0 z1 z2 z3)) N x20 x21 x22 (Rowd.cells (x20.getD x22.toNat Dr)) (List.length (Rowd.cells (x20.getD x22.toNat Dr)):Int) 0 b1 (x20.getD x22.toNat Dr))) else none) else(some true)
def FY(N:Nat)(a0:Val):Option (Bool):=(FX N a0.columns).bind fun r1=>bif(!r1) then(some false) else(bif(decide ((a0.rows.length:Int)>12)) then(some false) else((DC N N a0.rows (a0.rows.length:Int) 0 a0)))
def Ip(a0:Val):List Arg:=[.val (vV .ro a0)]
def G3(r:Int):CallO:=(cO (vI r))
def Dx(N:Nat)(q0:Val->Option (Int)):Nat->Int->(List Val)->Int->Int->Option (Int)
 |0,_,_,_,_=>none
 |n+1,x3,x7,x8,x9=>bif(decide (x9<x8)) then(if(0:Int)<=x9/\x9<x7.length then(q0 (x7.getD x9.toNat Dv)).bind fun r1=>(Dx N q0 n (if r1>x3 then r1 else x3) x7 x8 (i64.wrap (x9+1))) else none) else(some (i64.wrap (x3+1)))
def Mq(N:Nat)(q0:Val->Option (Int))(a0:Val):Option (Int):=(Dx N q0 N 0 a0.list (a0.list.length:Int) 0)
def Cp(N:Nat):Nat->Val->Option (Int)
 |0,_=>none
 |d+1,a0=>Mq N (Cp N d) a0
def FQ(N:Nat)(a0:Val):Option (Int):=Cp N N a0
def Iv(a0:Val):List Arg:=[.val (vV .ro a0)]
def Ga(r:Bool):CallO:=(cO (vB r))
def Ap(N:Nat)(q0:Val->Option (Bool)):Nat->(List Val)->Int->Int->Val->Option (Bool)
 |0,_,_,_,_=>none
 |n+1,x124,x125,x126,b1=>bif(decide (x126<x125)) then(if(0:Int)<=x126/\x126<x124.length then bif(((Val.kind (x124.getD x126.toNat Dv)):Int) != 1) then(bif(((Val.kind (x124.getD x126.toNat Dv)):Int) != 2) then(bif(((Val.kind (x124.getD x126.toNat Dv)):Int) != 3) then(some false) else((q0 (x124.getD x126.toNat Dv)).bind fun r1=>bif(!r1) then(some false) else((Ap N q0 n x124 x125 (i64.wrap (x126+1)) b1)))) else((q0 (x124.getD x126.toNat Dv)).bind fun r1=>bif(!r1) then(some false) else((Ap N q0 n x124 x125 (i64.wrap (x126+1)) b1)))) else((q0 (x124.getD x126.toNat Dv)).bind fun r1=>bif(!r1) then(some false) else((Ap N q0 n x124 x125 (i64.wrap (x126+1)) b1))) else none) else(bif(b1.n==0) then(bif(b1.step==0) then(bif((b1.text:Str)== []) then(bif((b1.columns.length:Int)==0) then(bif((b1.rows.length:Int)==0) then(bif(decide ((b1.list.length:Int)<=8)) then((FQ N b1).bind fun r1=>some (decide (r1<=3))) else(some false)) else(some false)) else(some false)) else(some false)) else(some false)) else(some false))
def G9(N:Nat)(q0:Val->Option (Bool))(a0:Val):Option (Bool):=bif((a0.list.length:Int)==0) then(bif((a0.columns.length:Int)==0) then(bif(a0.kind==1) then(bif((a0.rows.length:Int)==0) then(bif(a0.step==0) then(bif((a0.text:Str)== []) then((BP N a0.n).bind fun r1=>some r1) else(some false)) else(some false)) else(some false)) else(bif(a0.kind==2) then(bif((a0.rows.length:Int)==0) then(bif(a0.n==0) then(bif(a0.step==0) then((It N a0.text).bind fun r1=>some r1) else(some false)) else(some false)) else(some false)) else(bif(a0.kind==4) then(bif((a0.rows.length:Int)==0) then(bif((a0.text:Str)== []) then((BP N a0.n).bind fun r1=>bif r1 then((BP N a0.step).bind fun r2=>some r2) else(some false)) else(some false)) else(some false)) else(bif(a0.kind==6) then(bif((a0.rows.length:Int)==0) then(bif(a0.step==0) then(bif((a0.text:Str)== []) then((Bg N a0.n 1 8).bind fun r1=>some r1) else(some false)) else(some false)) else(some false)) else(bif(a0.kind==5) then(bif(a0.n==0) then(bif(a0.step==0) then(bif((a0.text:Str)== []) then((FY N a0).bind fun r1=>some r1) else(some false)) else(some false)) else(some false)) else(bif(a0.kind==3) then((Ap N q0 N a0.list (a0.list.length:Int) 0 a0)) else(some false))))))) else(bif(a0.kind==1) then(some false) else(bif(a0.kind==2) then(some false) else(bif(a0.kind==4) then(some false) else(bif(a0.kind==6) then(
     some false) else(bif(a0.kind==5) then(bif(a0.n==0) then(bif(a0.step==0) then(bif((a0.text:Str)== []) then((FY N a0).bind fun r1=>some r1) else(some false)) else(some false)) else(some false)) else(bif(a0.kind==3) then((Ap N q0 N a0.list (a0.list.length:Int) 0 a0)) else(some false)))))))) else(bif(a0.kind==1) then(some false) else(bif(a0.kind==2) then(some false) else(bif(a0.kind==4) then(some false) else(bif(a0.kind==6) then(some false) else(bif(a0.kind==5) then(bif(a0.n==0) then(bif(a0.step==0) then(bif((a0.text:Str)== []) then(some false) else(some false)) else(some false)) else(some false)) else(bif(a0.kind==3) then((Ap N q0 N a0.list (a0.list.length:Int) 0 a0)) else(some false)))))))
def Aq(N:Nat):Nat->Val->Option (Bool)
 |0,_=>none
 |d+1,a0=>G9 N (Aq N d) a0
def Iu(N:Nat)(a0:Val):Option (Bool):=Aq N N a0
def xIv(a0:List Val):List Arg:=[.val (vS .ro .val a0)]
def JE(r:Val×Bool×Bool):CallO:=⟨.tup [(true,[.int .i64 (Val.kind r.1),.int .i64 (Val.n r.1),.int .i64 (Val.step r.1),.str (Val.text r.1),.sl .ro .val (Val.list r.1),.sl .ro .str (Val.columns r.1),.sl .ro .row (Val.rows r.1)]),(false,[.bool r.2.1])],[],[]⟩
def xIx(r:Val×Bool×Bool):CallO:=⟨.tup [(true,[.int .i64 (Val.kind r.1),.int .i64 (Val.n r.1),.int .i64 (Val.step r.1),.str (Val.text r.1),.sl .own .val (Val.list r.1),.sl .own .str (Val.columns r.1),.sl .own .row (Val.rows r.1)]),(false,[.bool r.2.1])],[],[]⟩
def xIw(r:Val×Bool×Bool):CallO:=⟨.tup [(true,[.int .i64 (Val.kind r.1),.int .i64 (Val.n r.1),.int .i64 (Val.step r.1),.str (Val.text r.1),.sl .ro .val [],.sl .ro .str [],.sl .ro .row []]),(false,[.bool r.2.1])],[],[]⟩
def F3(r:Val×Bool×Bool):CallO:=bif r.2.2 then JE r else xIx r
def CM(N:Nat):Nat->(List Val)->Int->Int->Val->Option (Val×Bool×Bool)
 |0,_,_,_,_=>none
 |n+1,x6,x7,x8,b2=>bif(decide (x8<x7)) then(if(0:Int)<=x8/\x8<x6.length then(Iu N (x6.getD x8.toNat Dv)).bind fun r1=>bif(!r1) then((yT N 4).bind fun r2=>some (r2,true,false)) else(bif(((Val.kind (x6.getD x8.toNat Dv)):Int)==6) then(some ((x6.getD x8.toNat Dv),true,true)) else((CM N n x6 x7 (i64.wrap (x8+1)) b2))) else none) else(some ((Val.mk 0 0 0 [] [] [] []),false,false))
def EF(N:Nat)(a0:List Val):Option (Val×Bool×Bool):=(CM N N a0 (a0.length:Int) 0 (Val.mk 0 0 0 [] [] [] []))
def xHq(a0:Int):List Arg:=[.val (vI a0)]
def xHr(r:Val):CallO:=(cO (vV .own r))
def AW(N:Nat)(a0:Int):Option (Val):=some (Val.mk 1 a0 0 [] [] [] [])
def xHe(a0:Val):List Arg:=[.val (vV .ro a0)]
def xHi(r:Val×Bool):CallO:=⟨.v true [.int .i64 (Val.kind r.1),.int .i64 (Val.n r.1),.int .i64 (Val.step r.1),.str (Val.text r.1),.sl .ro .val (Val.list r.1),.sl .ro .str (Val.columns r.1),.sl .ro .row (Val.rows r.1)],[],[]⟩
def xHh(r:Val×Bool):CallO:=⟨.v true [.int .i64 (Val.kind r.1),.int .i64 (Val.n r.1),.int .i64 (Val.step r.1),.str (Val.text r.1),.sl .own .val (Val.list r.1),.sl .own .str (Val.columns r.1),.sl .own .row (Val.rows r.1)],[],[]⟩
def xHg(r:Val×Bool):CallO:=bif r.2 then xHi r else xHh r
def Gc(N:Nat)(a0:Val):Option (Val×Bool):=(EF N [a0.re]).bind fun r1=>bif r1.2.2 then(if List.isEmpty r1.1.list=true then if List.isEmpty r1.1.columns=true then if List.isEmpty r1.1.rows=true then bif r1.2.1 then(some ((Val.mk r1.1.kind r1.1.n r1.1.step r1.1.text [] [] []),true)) else(bif(a0.kind==3) then((AW N (a0.list.length:Int)).bind fun r2=>some (r2,false)) else(bif(a0.kind==2) then((AW N (a0.text.length:Int)).bind fun r2=>some (r2,false)) else((yT N 4).bind fun r2=>some (r2,false)))) else none else none else none) else(bif r1.2.1 then(some (r1.1,false)) else(bif(a0.kind==3) then((AW N (a0.list.length:Int)).bind fun r2=>some (r2,false)) else(bif(a0.kind==2) then((AW N (a0.text.length:Int)).bind fun r2=>some (r2,false)) else((yT N 4).bind fun r2=>some (r2,false)))))
def xHB(a0:Val):List Arg:=[.val (vV .ro a0)]
def xHE(r:Val×Bool):CallO:=⟨.v true [.int .i64 (Val.kind r.1),.int .i64 (Val.n r.1),.int .i64 (Val.step r.1),.str (Val.text r.1),.sl .ro .val (Val.list r.1),.sl .ro .str (Val.columns r.1),.sl .ro .row (Val.rows r.1)],[],[]⟩
def xHD(r:Val×Bool):CallO:=⟨.v true [.int .i64 (Val.kind r.1),.int .i64 (Val.n r.1),.int .i64 (Val.step r.1),.str (Val.text r.1),.sl .own .val (Val.list r.1),.sl .own .str (Val.columns r.1),.sl .own .row (Val.rows r.1)],[],[]⟩
def My(r:Val×Bool):CallO:=bif r.2 then xHE r else xHD r
def BN(N:Nat):Nat->Int->(List Val)->Int->Int->Val->Option (Val×Bool)
 |0,_,_,_,_,_=>none
 |n+1,x5,x21,x22,x23,b2=>bif(decide (x23<x22)) then(if(0:Int)<=x23/\x23<x21.length then bif(((Val.kind (x21.getD x23.toNat Dv)):Int) != 1) then((yT N 4).bind fun r1=>some (r1,false)) else((BP N (i64.wrap (x5+(Val.n (x21.getD x23.toNat Dv))))).bind fun r1=>bif(!r1) then((yT N 5).bind fun r2=>some (r2,false)) else((BN N n (i64.wrap (x5+(Val.n (x21.getD x23.toNat Dv)))) x21 x22 (i64.wrap (x23+1)) b2))) else none) else((AW N x5).bind fun r1=>some (r1,false))
def Gi(N:Nat)(a0:Val):Option (Val×Bool):=(EF N [a0.re]).bind fun r1=>bif r1.2.2 then(if List.isEmpty r1.1.list=true then if List.isEmpty r1.1.columns=true then if List.isEmpty r1.1.rows=true then bif r1.2.1 then(some ((Val.mk r1.1.kind r1.1.n r1.1.step r1.1.text [] [] []),true)) else(bif(a0.kind != 3) then((yT N 4).bind fun r2=>some (r2,false)) else((BN N N 0 a0.list (a0.list.length:Int) 0 (Val.mk 0 0 0 [] [] [] [])))) else none else none else none) else(bif r1.2.1 then(some (r1.1,false)) else(bif(a0.kind != 3) then((yT N 4).bind fun r2=>some (r2,false)) else((BN N N 0 a0.list (a0.list.length:Int) 0 (Val.mk 0 0 0 [] [] [] [])))))
def xIr(a0:List Int)(a1:List Val):List Arg:=[.val (vS .ro .int a0),.val (vS .ro .val a1)]
def JD(r:Val×Bool×Bool):CallO:=⟨.tup [(true,[.int .i64 (Val.kind r.1),.int .i64 (Val.n r.1),.int .i64 (Val.step r.1),.str (Val.text r.1),.sl .ro .val (Val.list r.1),.sl .ro .str (Val.columns r.1),.sl .ro .row (Val.rows r.1)]),(false,[.bool r.2.1])],[],[]⟩
def xIt(r:Val×Bool×Bool):CallO:=⟨.tup [(true,[.int .i64 (Val.kind r.1),.int .i64 (Val.n r.1),.int .i64 (Val.step r.1),.str (Val.text r.1),.sl .own .val (Val.list r.1),.sl .own .str (Val.columns r.1),.sl .own .row (Val.rows r.1)]),(false,[.bool r.2.1])],[],[]⟩
def xIs(r:Val×Bool×Bool):CallO:=⟨.tup [(true,[.int .i64 (Val.kind r.1),.int .i64 (Val.n r.1),.int .i64 (Val.step r.1),.str (Val.text r.1),.sl .ro .val [],.sl .ro .str [],.sl .ro .row []]),(false,[.bool r.2.1])],[],[]⟩
def FZ(r:Val×Bool×Bool):CallO:=bif r.2.2 then JD r else xIt r
def Bd(N:Nat):Nat->(List Int)->(List Val)->Int->Int->Val->Option (Val×Bool×Bool)
 |0,_,_,_,_,_=>none
 |n+1,x0,x17,x18,x19,b4=>bif(decide (x19<x18)) then(if(0:Int)<=x19/\x19<x17.length then if(0:Int)<=x19/\x19<x0.length then bif(((Val.kind (x17.getD x19.toNat Dv)):Int) != (x0.getD x19.toNat Di)) then((yT N 4).bind fun r1=>some (r1,true,false)) else((Bd N n x0 x17 x18 (i64.wrap (x19+1)) b4)) else none else none) else(some ((Val.mk 0 0 0 [] [] [] []),false,false))
def Ah(N:Nat)(a0:List Int)(a1:List Val):Option (Val×Bool×Bool):=(EF N a1).bind fun r1=>bif r1.2.2 then(bif r1.2.1 then(some (r1.1,true,true)) else((Bd N N a0 a1 (a1.length:Int) 0 (Val.mk 0 0 0 [] [] [] [])))) else(bif r1.2.1 then(some (r1.1,true,false)) else((Bd N N a0 a1 (a1.length:Int) 0 (Val.mk 0 0 0 [] [] [] []))))
def xGF(a0:Val):List Arg:=[.val (vV .ro a0)]
def xGJ(r:Val×Bool):CallO:=⟨.v true [.int .i64 (Val.kind r.1),.int .i64 (Val.n r.1),.int .i64 (Val.step r.1),.str (Val.text r.1),.sl .ro .val (Val.list r.1),.sl .ro .str (Val.columns r.1),.sl .ro .row (Val.rows r.1)],[],[]⟩
def xGI(r:Val×Bool):CallO:=⟨.v true [.int .i64 (Val.kind r.1),.int .i64 (Val.n r.1),.int .i64 (Val.step r.1),.str (Val.text r.1),.sl .own .val (Val.list r.1),.sl .own .str (Val.columns r.1),.sl .own .row (Val.rows r.1)],[],[]⟩
def xGH(r:Val×Bool):CallO:=bif r.2 then xGJ r else xGI r
def G0(N:Nat)(a0:Val):Option (Val×Bool):=(Ah N [5] [a0.re]).bind fun r1=>bif r1.2.2 then(if List.isEmpty r1.1.list=true then if List.isEmpty r1.1.columns=true then if List.isEmpty r1.1.rows=true then bif r1.2.1 then(some ((Val.mk r1.1.kind r1.1.n r1.1.step r1.1.text [] [] []),true)) else((AW N (a0.rows.length:Int)).bind fun r2=>some (r2,false)) else none else none else none) else(bif r1.2.1 then(some (r1.1,false)) else((AW N (a0.rows.length:Int)).bind fun r2=>some (r2,false)))
def xID(a0:Val)(a1:Val):List Arg:=[.val (vV .ro a0),.val (vV .ro a1)]
def xIG(r:Val×Bool×Bool):CallO:=⟨.tup [(true,[.int .i64 (Val.kind r.1),.int .i64 (Val.n r.1),.int .i64 (Val.step r.1),.str (Val.text r.1),.sl .ro .val (Val.list r.1),.sl .ro .str (Val.columns r.1),.sl .ro .row (Val.rows r.1)]),(false,[.bool r.2.1])],[],[]⟩
def xIF(r:Val×Bool×Bool):CallO:=⟨.tup [(true,[.int .i64 (Val.kind r.1),.int .i64 (Val.n r.1),.int .i64 (Val.step r.1),.str (Val.text r.1),.sl .own .val (Val.list r.1),.sl .own .str (Val.columns r.1),.sl .own .row (Val.rows r.1)]),(false,[.bool r.2.1])],[],[]⟩
def xIE(r:Val×Bool×Bool):CallO:=bif r.2.2 then xIG r else xIF r
def EH(N:Nat)(a0:Val)(a1:Val):Option (Val×Bool×Bool):=(EF N [a0.re,a1.re]).bind fun r1=>bif r1.2.2 then(if List.isEmpty r1.1.list=true then if List.isEmpty r1.1.columns=true then if List.isEmpty r1.1.rows=true then bif r1.2.1 then(some ((Val.mk r1.1.kind r1.1.n r1.1.step r1.1.text [] [] []),true,true)) else((yT N 4).bind fun r2=>bif(a0.kind != 1) then(some (r2,true,false)) else(bif(a1.kind != 3) then(some (r2,(a1.kind != 4),false)) else(some (r2,false,false)))) else none else none else none) else(bif r1.2.1 then(some (r1.1,true,false)) else((yT N 4).bind fun r2=>bif(a0.kind != 1) then(some (r2,true,false)) else(bif(a1.kind != 3) then(some (r2,(a1.kind != 4),false)) else(some (r2,false,false)))))
def xH2(a0:Rowd):List Arg:=[.val (.v true [.sl .ro .int a0.cells,.sl .ro .org a0.frm])]
def xH3(r:Rowd):CallO:=⟨.v true [.sl .own .int (Rowd.cells r),.sl .own .org (Rowd.frm r)],[],[]⟩
def Gl(N:Nat)(a0:Rowd):Option (Rowd):=if 0+a0.cells.length<=Lim then if 0+a0.frm.length<=Lim then some (Rowd.mk ([]++a0.cells) ([]++a0.frm)) else none else none
def Iy(a0:Val):List Arg:=[.val (vV .ro a0)]
def Gp(r:Val):CallO:=(cO (vV .own r))
def Cz(N:Nat)(q0:Val->Option (Val))(q1:(List Val)->Option ((List Val))):Nat->(List Rowd)->Int->Int->Val->Val->Option (Val)
 |0,_,_,_,_,_=>none
 |n+1,x18,x19,x20,b2,b3=>bif(decide (x20<x19)) then(if(0:Int)<=x20/\x20<x18.length then(Gl N (x18.getD x20.toNat Dr)).bind fun r1=>if b3.rows.length+ [r1].length<=Lim then(Cz N q0 q1 n x18 x19 (i64.wrap (x20+1)) b2 (Val.mk b3.kind b3.n b3.step b3.text b3.list b3.columns (b3.rows++ [r1]))) else none else none) else(some b3)
def Gm(N:Nat)(q0:Val->Option (Val))(q1:(List Val)->Option ((List Val)))(a0:Val):Option (Val):=(q1 a0.list).bind fun r1=>if 0+a0.columns.length<=Lim then(Cz N q0 q1 N a0.rows (a0.rows.length:Int) 0 (Val.mk 0 0 0 [] [] [] []) (Val.mk a0.kind a0.n a0.step a0.text r1 ([]++a0.columns) [])) else none
def JA(a0:List Val):List Arg:=[.val (vS .ro .val a0)]
def Gr(r:(List Val)):CallO:=(cO (vS .own .val r))
def ED(N:Nat)(q0:Val->Option (Val))(q1:(List Val)->Option ((List Val))):Nat->(List Val)->(List Val)->Int->Int->Option ((List Val))
 |0,_,_,_,_=>none
 |n+1,x3,x7,x8,x9=>bif(decide (x9<x8)) then(if(0:Int)<=x9/\x9<x7.length then(q0 (x7.getD x9.toNat Dv)).bind fun r1=>if x3.length+ [r1.re].length<=Lim then(ED N q0 q1 n (x3++ [r1.re]) x7 x8 (i64.wrap (x9+1))) else none else none) else(some x3)
def Gq(N:Nat)(q0:Val->Option (Val))(q1:(List Val)->Option ((List Val)))(a0:List Val):Option ((List Val)):=(ED N q0 q1 N [] a0 (a0.length:Int) 0)
structure impl_copyValue_rec where
 c_impl_copyValue:Val->Option (Val)
 c_impl_copyValues:(List Val)->Option ((List Val))
def AC(N:Nat):Nat->impl_copyValue_rec
 |0=>⟨fun _=>none,fun _=>none⟩
 |d+1=>⟨Gm N (AC N d).c_impl_copyValue (AC N d).c_impl_copyValues,Gq N (AC N d).c_impl_copyValue (AC N d).c_impl_copyValues⟩
def Cy(N:Nat)(a0:Val):Option (Val):=(AC N N).c_impl_copyValue a0
def Iz(N:Nat)(a0:List Val):Option ((List Val)):=(AC N N).c_impl_copyValues a0
def xHj(a0:List Val):List Arg:=[.val (vS .ro .val a0)]
def xHk(r:Val):CallO:=(cO (vV .own r))
def Cu(N:Nat)(a0:List Val):Option (Val):=(Iz N a0).bind fun r1=>some (Val.mk 3 0 0 [] r1 [] [])
def xGx(a0:Int):List Arg:=[.val (vI a0)]
def xGy(r:Val):CallO:=(cO (vV .own r))
def FP(N:Nat)(a0:Int):Option (Val):=(BP N a0).bind fun r1=>bif(!r1) then((yT N 5).bind fun r2=>some r2) else((AW N a0).bind fun r2=>some r2)
def xHl(a0:Val)(a1:Val):List Arg:=[.val (vV .ro a0),.val (vV .ro a1)]
def Iw(r:Val×Bool):CallO:=⟨.v true [.int .i64 (Val.kind r.1),.int .i64 (Val.n r.1),.int .i64 (Val.step r.1),.str (Val.text r.1),.sl .ro .val (Val.list r.1),.sl .ro .str (Val.columns r.1),.sl .ro .row (Val.rows r.1)],[],[]⟩
def xHn(r:Val×Bool):CallO:=⟨.v true [.int .i64 (Val.kind r.1),.int .i64 (Val.n r.1),.int .i64 (Val.step r.1),.str (Val.text r.1),.sl .own .val (Val.list r.1),.sl .own .str (Val.columns r.1),.sl .own .row (Val.rows r.1)],[],[]⟩
def xHm(r:Val×Bool):CallO:=⟨.v true [.int .i64 (Val.kind r.1),.int .i64 (Val.n r.1),.int .i64 (Val.step r.1),.str (Val.text r.1),.sl .ro .val [],.sl .ro .str [],.sl .ro .row []],[],[]⟩
def Gg(r:Val×Bool):CallO:=bif r.2 then Iw r else xHn r
def A7(N:Nat)(a0:Val)(a1:Val):Option (Val×Bool):=(EH N a0 a1).bind fun r1=>bif r1.2.2 then(bif r1.2.1 then(some (r1.1,true)) else(bif(decide (a0.n<0)) then((yT N 5).bind fun r2=>some (r2,false)) else(bif(a1.kind==3) then(bif(decide (a0.n>=(a1.list.length:Int))) then((yT N 5).bind fun r2=>some (r2,false)) else(if(0:Int)<=a0.n/\a0.n<a1.list.length then(Cy N (a1.list.getD a0.n.toNat Dv)).bind fun r2=>some (r2,false) else none)) else((FP N (i64.wrap (a1.n+(i64.wrap (a0.n*a1.step))))).bind fun r2=>some (r2,false))))) else(bif r1.2.1 then(some (r1.1,false)) else(bif(decide (a0.n<0)) then((yT N 5).bind fun r2=>some (r2,false)) else(bif(a1.kind==3) then(bif(decide (a0.n>=(a1.list.length:Int))) then((yT N 5).bind fun r2=>some (r2,false)) else(if(0:Int)<=a0.n/\a0.n<a1.list.length then(Cy N (a1.list.getD a0.n.toNat Dv)).bind fun r2=>some (r2,false) else none)) else((FP N (i64.wrap (a1.n+(i64.wrap (a0.n*a1.step))))).bind fun r2=>some (r2,false)))))
def xHJ(a0:Val)(a1:Val):List Arg:=[.val (vV .ro a0),.val (vV .ro a1)]
def xHM(r:Val×Bool):CallO:=⟨.v true [.int .i64 (Val.kind r.1),.int .i64 (Val.n r.1),.int .i64 (Val.step r.1),.str (Val.text r.1),.sl .ro .val (Val.list r.1),.sl .ro .str (Val.columns r.1),.sl .ro .row (Val.rows r.1)],[],[]⟩
def xHL(r:Val×Bool):CallO:=⟨.v true [.int .i64 (Val.kind r.1),.int .i64 (Val.n r.1),.int .i64 (Val.step r.1),.str (Val.text r.1),.sl .own .val (Val.list r.1),.sl .own .str (Val.columns r.1),.sl .own .row (Val.rows r.1)],[],[]⟩
def Mz(r:Val×Bool):CallO:=bif r.2 then xHM r else xHL r
def EA(N:Nat):Nat->Int->Val->Val->Val->Val->Option (Val×Bool)
 |0,_,_,_,_,_=>none
 |n+1,x8,b2,b3,b4,b7=>bif(decide (x8<b2.n)) then((AW N x8).bind fun r1=>(A7 N r1 b3).bind fun r2=>bif r2.2 then(if List.isEmpty r2.1.list=true then if List.isEmpty r2.1.columns=true then if List.isEmpty r2.1.rows=true then bif(r2.1.kind==6) then(some ((Val.mk r2.1.kind r2.1.n r2.1.step r2.1.text [] [] []),true)) else(if b7.list.length+List.length [(Val.mk r2.1.kind r2.1.n r2.1.step r2.1.text [] [] [])]<=Lim then none else none) else none else none else none) else(bif(r2.1.kind==6) then(some (r2.1,false)) else(if b7.list.length+ [r2.1.re].length<=Lim then(EA N n (i64.wrap (x8+1)) b2 b3 b4 (Val.mk b7.kind b7.n b7.step b7.text (b7.list++ [r2.1.re]) b7.columns b7.rows)) else none))) else(some (b7,false))
def Cx(N:Nat)(a0:Val)(a1:Val):Option (Val×Bool):=(EH N a0 a1).bind fun r1=>bif r1.2.2 then(bif r1.2.1 then(some (r1.1,true)) else((Bg N a0.n 0 8).bind fun r2=>bif(!r2) then((yT N 5).bind fun r3=>some (r3,false)) else(bif(a1.kind==3) then(if(0:Int)<=(if(a1.list.length:Int)<a0.n then(a1.list.length:Int) else a0.n)/\(if(a1.list.length:Int)<a0.n then(a1.list.length:Int) else a0.n)<=a1.list.length then(Cu N (List.take (Int.toNat (if(a1.list.length:Int)<a0.n then(a1.list.length:Int) else a0.n)) a1.list)).bind fun r3=>some (r3,false) else none) else(none)))) else(bif r1.2.1 then(some (r1.1,false)) else((Bg N a0.n 0 8).bind fun r2=>bif(!r2) then((yT N 5).bind fun r3=>some (r3,false)) else(bif(a1.kind==3) then(if(0:Int)<=(if(a1.list.length:Int)<a0.n then(a1.list.length:Int) else a0.n)/\(if(a1.list.length:Int)<a0.n then(a1.list.length:Int) else a0.n)<=a1.list.length then(Cu N (List.take (Int.toNat (if(a1.list.length:Int)<a0.n then(a1.list.length:Int) else a0.n)) a1.list)).bind fun r3=>some (r3,false) else none) else((EA N N 0 a0 a1 (Val.mk 0 0 0 [] [] [] []) (Val.mk 3 0 0 [] [] [] []))))))
def xHz(a0:Int)(a1:Int):List Arg:=[.val (vI a0),.val (vI a1)]
def xHA(r:Val):CallO:=(cO (vV .own r))
def CH(N:Nat)(a0:Int)(a1:Int):Option (Val):=some (Val.mk 4 a0 a1 [] [] [] [])
def xHs(a0:Val)(a1:Val):List Arg:=[.val (vV .ro a0),.val (vV .ro a1)]
def xHw(r:Val×Bool):CallO:=⟨.v true [.int .i64 (Val.kind r.1),.int .i64 (Val.n r.1),.int .i64 (Val.step r.1),.str (Val.text r.1),.sl .ro .val (Val.list r.1),.sl .ro .str (Val.columns r.1),.sl .ro .row (Val.rows r.1)],[],[]⟩
def xHv(r:Val×Bool):CallO:=⟨.v true [.int .i64 (Val.kind r.1),.int .i64 (Val.n r.1),.int .i64 (Val.step r.1),.str (Val.text r.1),.sl .own .val (Val.list r.1),.sl .own .str (Val.columns r.1),.sl .own .row (Val.rows r.1)],[],[]⟩
def xHu(r:Val×Bool):CallO:=bif r.2 then xHw r else xHv r
def Cv(N:Nat)(a0:Val)(a1:Val):Option (Val×Bool):=(EH N a0 a1).bind fun r1=>bif r1.2.2 then(bif r1.2.1 then(some (r1.1,true)) else(bif(decide (a0.n<0)) then((yT N 5).bind fun r2=>some (r2,false)) else(bif(a1.kind==3) then(if(0:Int)<=(if(a1.list.length:Int)<a0.n then(a1.list.length:Int) else a0.n)/\(if(a1.list.length:Int)<a0.n then(a1.list.length:Int) else a0.n)<=a1.list.length then(Cu N (List.drop (Int.toNat (if(a1.list.length:Int)<a0.n then(a1.list.length:Int) else a0.n)) a1.list)).bind fun r2=>some (r2,false) else none) else((A7 N a0 a1).bind fun r2=>bif r2.2 then(bif(r2.1.kind==6) then(some (r2.1,true)) else((CH N r2.1.n a1.step).bind fun r3=>some (r3,false))) else(bif(r2.1.kind==6) then(some (r2.1,false)) else((CH N r2.1.n a1.step).bind fun r3=>some (r3,false))))))) else(bif r1.2.1 then(some (r1.1,false)) else(bif(decide (a0.n<0)) then((yT N 5).bind fun r2=>some (r2,false)) else(bif(a1.kind==3) then(if(0:Int)<=(if(a1.list.length:Int)<a0.n then(a1.list.length:Int) else a0.n)/\(if(a1.list.length:Int)<a0.n then(a1.list.length:Int) else a0.n)<=a1.list.length then(Cu N (List.drop (Int.toNat (if(a1.list.length:Int)<a0.n then(a1.list.length:Int) else a0.n)) a1.list)).bind fun r2=>some (r2,false) else none) else((A7 N a0 a1).bind fun r2=>bif r2.2 then(bif(r2.1.kind==6) then(some (r2.1,true)) else((CH N r2.1.n a1.step).bind fun r3=>
     some (r3,false))) else(bif(r2.1.kind==6) then(some (r2.1,false)) else((CH N r2.1.n a1.step).bind fun r3=>some (r3,false)))))))
def xOt(a0:Str)(a1:Str):List Arg:=[.val (vT a0),.val (vT a1)]
def xOw(r:(List Str)):CallO:=(cO (vS .own .str r))
def IQ(N:Nat)(a0:Str)(a1:Str):Option (List Str):=qJ a0 a1
def xHx(a0:Str)(a1:Int):List Arg:=[.val (vT a0),.val (.v false [.int .u8 a1])]
def xHy(r:(List Str)):CallO:=(cO (vS .own .str r))
def Cw(N:Nat)(a0:Str)(a1:Int):Option ((List Str)):=(IQ N a0 (List.map (fun n=>UInt8.ofNat (Int.toNat n)) [a1])).bind fun r1=>some r1
def xGz(a0:Val)(a1:Str):List Arg:=[.val (vV .ro a0),.val (vT a1)]
def xGA(r:Int):CallO:=(cO (vI r))
def zZ(N:Nat)(a0:Val)(a1:Str):Option (Int):=(FR N a0.columns a1).bind fun r1=>some r1
def xHa(a0:Val)(a1:Val):List Arg:=[.val (vV .ro a0),.val (vV .ro a1)]
def xHd(r:Val×Bool):CallO:=⟨.v true [.int .i64 (Val.kind r.1),.int .i64 (Val.n r.1),.int .i64 (Val.step r.1),.str (Val.text r.1),.sl .ro .val (Val.list r.1),.sl .ro .str (Val.columns r.1),.sl .ro .row (Val.rows r.1)],[],[]⟩
def xHc(r:Val×Bool):CallO:=⟨.v true [.int .i64 (Val.kind r.1),.int .i64 (Val.n r.1),.int .i64 (Val.step r.1),.str (Val.text r.1),.sl .own .val (Val.list r.1),.sl .own .str (Val.columns r.1),.sl .own .row (Val.rows r.1)],[],[]⟩
def FU(r:Val×Bool):CallO:=bif r.2 then xHd r else xHc r
def Ct(N:Nat)(k17:(List Int)->(List Rowd)->Int->Int->Val->Val->Option (Val×Bool)):Nat->(List Int)->(List Rowd)->Int->Int->(List Int)->Int->Int->Val->Val->Rowd->Rowd->Option (Val×Bool)
 |0,_,_,_,_,_,_,_,_,_,_,_=>none
 |n+1,x8,x56,x57,x58,x67,x68,x69,b4,b7,b13,b14=>bif(decide (x69<x68)) then(if(0:Int)<=x69/\x69<x67.length then if(0:Int)<=(x67.getD x69.toNat Di)/\(x67.getD x69.toNat Di)<b13.cells.length then if b14.cells.length+ [(b13.cells.getD (Int.toNat (x67.getD x69.toNat Di)) Di)].length<=Lim then(Ct N k17 n x8 x56 x57 x58 x67 x68 (i64.wrap (x69+1)) b4 b7 b13 (Rowd.mk (b14.cells++ [(b13.cells.getD (Int.toNat (x67.getD x69.toNat Di)) Di)]) b14.frm)) else none else none else none) else(if b7.rows.length+ [b14].length<=Lim then(k17 x8 x56 x57 (i64.wrap (x58+1)) b4 (Val.mk b7.kind b7.n b7.step b7.text b7.list b7.columns (b7.rows++ [b14]))) else none)
def Ba(N:Nat):Nat->(List Int)->(List Rowd)->Int->Int->Val->Val->Option (Val×Bool)
 |0,_,_,_,_,_,_=>none
 |n+1,x8,x56,x57,x58,b4,b7=>bif(decide (x58<x57)) then(if(0:Int)<=x58/\x58<x56.length then if 0+List.length (Rowd.frm (x56.getD x58.toNat Dr))<=Lim then(Ct N (fun z0 z1 z2 z3 z4 z5=>(Ba N n z0 z1 z2 z3 z4 z5)) N x8 x56 x57 x58 x8 (x8.length:Int) 0 b4 b7 (x56.getD x58.toNat Dr) (Rowd.mk [] ([]++(Rowd.frm (x56.getD x58.toNat Dr))))) else none else none) else(some (b7,false))
def Bb(N:Nat):Nat->(List Int)->(List Str)->Int->Int->Val->Val->Val->Option (Val×Bool)
 |0,_,_,_,_,_,_,_=>none
 |n+1,x8,x33,x34,x35,b3,b4,b7=>bif(decide (x35<x34)) then(if(0:Int)<=x35/\x35<x33.length then(zZ N b3 (x33.getD x35.toNat Ds)).bind fun r1=>bif(decide (r1<0)) then((yT N 7).bind fun r2=>some (r2,false)) else(if x8.length+ [r1].length<=Lim then(Bb N n (x8++ [r1]) x33 x34 (i64.wrap (x35+1)) b3 b4 b7) else none) else none) else((Dt N b7.columns).bind fun r1=>bif(!r1) then((yT N 7).bind fun r2=>some (r2,false)) else((Ba N N x8 b3.rows (b3.rows.length:Int) 0 b4 b7)))
def FT(N:Nat)(a0:Val)(a1:Val):Option (Val×Bool):=(Ah N [2,5] [a0.re,a1.re]).bind fun r1=>bif r1.2.2 then(if List.isEmpty r1.1.list=true then if List.isEmpty r1.1.columns=true then if List.isEmpty r1.1.rows=true then bif r1.2.1 then(some ((Val.mk r1.1.kind r1.1.n r1.1.step r1.1.text [] [] []),true)) else((Cw N a0.text 32).bind fun r2=>(Bb N N [] r2 (r2.length:Int) 0 a1 (Val.mk 0 0 0 [] [] [] []) (Val.mk 5 0 0 [] [] r2 []))) else none else none else none) else(bif r1.2.1 then(some (r1.1,false)) else((Cw N a0.text 32).bind fun r2=>(Bb N N [] r2 (r2.length:Int) 0 a1 (Val.mk 0 0 0 [] [] [] []) (Val.mk 5 0 0 [] [] r2 []))))
def xGB(a0:Val)(a1:Val):List Arg:=[.val (vV .ro a0),.val (vV .ro a1)]
def xGE(r:Val×Bool):CallO:=⟨.v true [.int .i64 (Val.kind r.1),.int .i64 (Val.n r.1),.int .i64 (Val.step r.1),.str (Val.text r.1),.sl .ro .val (Val.list r.1),.sl .ro .str (Val.columns r.1),.sl .ro .row (Val.rows r.1)],[],[]⟩
def xGD(r:Val×Bool):CallO:=⟨.v true [.int .i64 (Val.kind r.1),.int .i64 (Val.n r.1),.int .i64 (Val.step r.1),.str (Val.text r.1),.sl .own .val (Val.list r.1),.sl .own .str (Val.columns r.1),.sl .own .row (Val.rows r.1)],[],[]⟩
def Mp(r:Val×Bool):CallO:=bif r.2 then xGE r else xGD r
def CF(N:Nat):Nat->Int->(List Rowd)->Int->Int->Val->Val->Option (Val×Bool)
 |0,_,_,_,_,_,_=>none
 |n+1,x7,x35,x36,x37,b4,b8=>bif(decide (x37<x36)) then(if(0:Int)<=x37/\x37<x35.length then if(0:Int)<=x7/\x7<(List.length (Rowd.cells (x35.getD x37.toNat Dr))) then(AW N (List.getD (Rowd.cells (x35.getD x37.toNat Dr)) x7.toNat Di)).bind fun r1=>if b8.list.length+ [r1.re].length<=Lim then(CF N n x7 x35 x36 (i64.wrap (x37+1)) b4 (Val.mk b8.kind b8.n b8.step b8.text (b8.list++ [r1.re]) b8.columns b8.rows)) else none else none else none) else(some (b8,false))
def Dw(N:Nat)(a0:Val)(a1:Val):Option (Val×Bool):=(Ah N [2,5] [a0.re,a1.re]).bind fun r1=>bif r1.2.2 then(if List.isEmpty r1.1.list=true then if List.isEmpty r1.1.columns=true then if List.isEmpty r1.1.rows=true then bif r1.2.1 then(some ((Val.mk r1.1.kind r1.1.n r1.1.step r1.1.text [] [] []),true)) else((zZ N a1 a0.text).bind fun r2=>bif(decide (r2<0)) then((yT N 7).bind fun r3=>some (r3,false)) else(bif(decide ((a1.rows.length:Int)>8)) then((yT N 6).bind fun r3=>some (r3,false)) else((CF N N r2 a1.rows (a1.rows.length:Int) 0 (Val.mk 0 0 0 [] [] [] []) (Val.mk 3 0 0 [] [] [] []))))) else none else none else none) else(bif r1.2.1 then(some (r1.1,false)) else((zZ N a1 a0.text).bind fun r2=>bif(decide (r2<0)) then((yT N 7).bind fun r3=>some (r3,false)) else(bif(decide ((a1.rows.length:Int)>8)) then((yT N 6).bind fun r3=>some (r3,false)) else((CF N N r2 a1.rows (a1.rows.length:Int) 0 (Val.mk 0 0 0 [] [] [] []) (Val.mk 3 0 0 [] [] [] []))))))
def xHF(a0:Val)(a1:Val):List Arg:=[.val (vV .ro a0),.val (vV .ro a1)]
def xHI(r:Val×Bool):CallO:=⟨.v true [.int .i64 (Val.kind r.1),.int .i64 (Val.n r.1),.int .i64 (Val.step r.1),.str (Val.text r.1),.sl .ro .val (Val.list r.1),.sl .ro .str (Val.columns r.1),.sl .ro .row (Val.rows r.1)],[],[]⟩
def xHH(r:Val×Bool):CallO:=⟨.v true [.int .i64 (Val.kind r.1),.int .i64 (Val.n r.1),.int .i64 (Val.step r.1),.str (Val.text r.1),.sl .own .val (Val.list r.1),.sl .own .str (Val.columns r.1),.sl .own .row (Val.rows r.1)],[],[]⟩
def Gj(r:Val×Bool):CallO:=bif r.2 then xHI r else xHH r
def CI(N:Nat)(k8:(List Val)->Int->Int->Val->Val->Option (Val×Bool)):Nat->(List Val)->Int->Int->(List Val)->Int->Int->Val->Val->Rowd->Option (Val×Bool)
 |0,_,_,_,_,_,_,_,_,_=>none
 |n+1,x33,x34,x35,x54,x55,x56,b4,b7,b10=>bif(decide (x56<x55)) then(if(0:Int)<=x56/\x56<x54.length then bif(((Val.kind (x54.getD x56.toNat Dv)):Int) != 1) then((yT N 4).bind fun r1=>some (r1,false)) else(if b10.cells.length+ [(Val.n (x54.getD x56.toNat Dv))].length<=Lim then(CI N k8 n x33 x34 x35 x54 x55 (i64.wrap (x56+1)) b4 b7 (Rowd.mk (b10.cells++ [(Val.n (x54.getD x56.toNat Dv))]) b10.frm)) else none) else none) else(if b7.rows.length+ [b10].length<=Lim then(k8 x33 x34 (i64.wrap (x35+1)) b4 (Val.mk b7.kind b7.n b7.step b7.text b7.list b7.columns (b7.rows++ [b10]))) else none)
def Ar(N:Nat):Nat->(List Val)->Int->Int->Val->Val->Option (Val×Bool)
 |0,_,_,_,_,_=>none
 |n+1,x33,x34,x35,b4,b7=>bif(decide (x35<x34)) then(if(0:Int)<=x35/\x35<x33.length then bif(((Val.kind (x33.getD x35.toNat Dv)):Int) != 3) then((yT N 4).bind fun r1=>some (r1,false)) else(bif(((List.length (Val.list (x33.getD x35.toNat Dv)):Int):Int) != (b7.columns.length:Int)) then((yT N 4).bind fun r1=>some (r1,false)) else((CI N (fun z0 z1 z2 z3 z4=>(Ar N n z0 z1 z2 z3 z4)) N x33 x34 x35 (Val.list (x33.getD x35.toNat Dv)) (List.length (Val.list (x33.getD x35.toNat Dv)):Int) 0 b4 b7 (Rowd.mk [] [])))) else none) else(some (b7,false))
def FV(N:Nat)(a0:Val)(a1:Val):Option (Val×Bool):=(Ah N [2,3] [a0.re,a1.re]).bind fun r1=>bif r1.2.2 then(if List.isEmpty r1.1.list=true then if List.isEmpty r1.1.columns=true then if List.isEmpty r1.1.rows=true then bif r1.2.1 then(some ((Val.mk r1.1.kind r1.1.n r1.1.step r1.1.text [] [] []),true)) else((Cw N a0.text 32).bind fun r2=>(FX N r2).bind fun r3=>bif(!r3) then((yT N 7).bind fun r4=>some (r4,false)) else((Ar N N a1.list (a1.list.length:Int) 0 (Val.mk 0 0 0 [] [] [] []) (Val.mk 5 0 0 [] [] r2 [])))) else none else none else none) else(bif r1.2.1 then(some (r1.1,false)) else((Cw N a0.text 32).bind fun r2=>(FX N r2).bind fun r3=>bif(!r3) then((yT N 7).bind fun r4=>some (r4,false)) else((Ar N N a1.list (a1.list.length:Int) 0 (Val.mk 0 0 0 [] [] [] []) (Val.mk 5 0 0 [] [] r2 [])))))
def xHS(a0:Val)(a1:Val)(a2:Val):List Arg:=[.val (vV .ro a0),.val (vV .ro a1),.val (vV .ro a2)]
def xHV(r:Val×Bool):CallO:=⟨.v true [.int .i64 (Val.kind r.1),.int .i64 (Val.n r.1),.int .i64 (Val.step r.1),.str (Val.text r.1),.sl .ro .val (Val.list r.1),.sl .ro .str (Val.columns r.1),.sl .ro .row (Val.rows r.1)],[],[]⟩
def xHU(r:Val×Bool):CallO:=⟨.v true [.int .i64 (Val.kind r.1),.int .i64 (Val.n r.1),.int .i64 (Val.step r.1),.str (Val.text r.1),.sl .own .val (Val.list r.1),.sl .own .str (Val.columns r.1),.sl .own .row (Val.rows r.1)],[],[]⟩
def NC(r:Val×Bool):CallO:=bif r.2 then xHV r else xHU r
def BO(N:Nat):Nat->Int->(List Rowd)->Int->Int->Val->Val->Val->Option (Val×Bool)
 |0,_,_,_,_,_,_,_=>none
 |n+1,x9,x37,x38,x39,b4,b6,b10=>bif(decide (x39<x38)) then(if(0:Int)<=x39/\x39<x37.length then if(0:Int)<=x9/\x9<(List.length (Rowd.cells (x37.getD x39.toNat Dr))) then bif(((List.getD (Rowd.cells (x37.getD x39.toNat Dr)) x9.toNat Di):Int)==b4.n) then((Gl N (x37.getD x39.toNat Dr)).bind fun r1=>if b10.rows.length+ [r1].length<=Lim then(BO N n x9 x37 x38 (i64.wrap (x39+1)) b4 b6 (Val.mk b10.kind b10.n b10.step b10.text b10.list b10.columns (b10.rows++ [r1]))) else none) else((BO N n x9 x37 x38 (i64.wrap (x39+1)) b4 b6 b10)) else none else none) else(some (b10,false))
def EB(N:Nat)(a0:Val)(a1:Val)(a2:Val):Option (Val×Bool):=(Ah N [2,1,5] [a0.re,a1.re,a2.re]).bind fun r1=>bif r1.2.2 then(if List.isEmpty r1.1.list=true then if List.isEmpty r1.1.columns=true then if List.isEmpty r1.1.rows=true then bif r1.2.1 then(some ((Val.mk r1.1.kind r1.1.n r1.1.step r1.1.text [] [] []),true)) else((zZ N a2 a0.text).bind fun r2=>bif(decide (r2<0)) then((yT N 7).bind fun r3=>some (r3,false)) else(if 0+a2.columns.length<=Lim then(BO N N r2 a2.rows (a2.rows.length:Int) 0 a1 (Val.mk 0 0 0 [] [] [] []) (Val.mk 5 0 0 [] [] ([]++a2.columns) [])) else none)) else none else none else none) else(bif r1.2.1 then(some (r1.1,false)) else((zZ N a2 a0.text).bind fun r2=>bif(decide (r2<0)) then((yT N 7).bind fun r3=>some (r3,false)) else(if 0+a2.columns.length<=Lim then(BO N N r2 a2.rows (a2.rows.length:Int) 0 a1 (Val.mk 0 0 0 [] [] [] []) (Val.mk 5 0 0 [] [] ([]++a2.columns) [])) else none)))
def NA(a0:List Org)(a1:List Org):List Arg:=[.val (vS .ro .org a0),.val (vS .ro .org a1)]
def NB(r:(List Org)):CallO:=(cO (vS .own .org r))
def Gk(N:Nat)(a0 a1:List Org):Option (List Org):=zAt a0 a1
def xGP(a0:Val)(a1:Val)(a2:Val):List Arg:=[.val (vV .ro a0),.val (vV .ro a1),.val (vV .ro a2)]
def xGS(r:Val×Bool):CallO:=⟨.v true [.int .i64 (Val.kind r.1),.int .i64 (Val.n r.1),.int .i64 (Val.step r.1),.str (Val.text r.1),.sl .ro .val (Val.list r.1),.sl .ro .str (Val.columns r.1),.sl .ro .row (Val.rows r.1)],[],[]⟩
def xGR(r:Val×Bool):CallO:=⟨.v true [.int .i64 (Val.kind r.1),.int .i64 (Val.n r.1),.int .i64 (Val.step r.1),.str (Val.text r.1),.sl .own .val (Val.list r.1),.sl .own .str (Val.columns r.1),.sl .own .row (Val.rows r.1)],[],[]⟩
def Iq(r:Val×Bool):CallO:=bif r.2 then xGS r else xGR r
def G6(N:Nat)(x9:Int)(x10:Int)(b3:Val)(b4:Val)(b5:Val)(b6:Val):Option (Val×Bool):=zAj x9 x10 b3 b4 b5
def CG(N:Nat)(a0:Val)(a1:Val)(a2:Val):Option (Val×Bool):=(Ah N [2,2,5] [a0.re,a1.re,a2.re]).bind fun r1=>bif r1.2.2 then(if List.isEmpty r1.1.list=true then if List.isEmpty r1.1.columns=true then if List.isEmpty r1.1.rows=true then bif r1.2.1 then(some ((Val.mk r1.1.kind r1.1.n r1.1.step r1.1.text [] [] []),true)) else((zZ N a2 a0.text).bind fun r2=>(zZ N a2 a1.text).bind fun r3=>bif(decide (r2<0)) then((yT N 7).bind fun r4=>some (r4,false)) else(bif(decide (r3<0)) then((yT N 7).bind fun r4=>some (r4,false)) else(bif((a0.text:Str)==a1.text) then((yT N 7).bind fun r4=>some (r4,false)) else((G6 N r2 r3 a0 a1 a2 (Val.mk 0 0 0 [] [] [] [])))))) else none else none else none) else(bif r1.2.1 then(some (r1.1,false)) else((zZ N a2 a0.text).bind fun r2=>(zZ N a2 a1.text).bind fun r3=>bif(decide (r2<0)) then((yT N 7).bind fun r4=>some (r4,false)) else(bif(decide (r3<0)) then((yT N 7).bind fun r4=>some (r4,false)) else(bif((a0.text:Str)==a1.text) then((yT N 7).bind fun r4=>some (r4,false)) else((G6 N r2 r3 a0 a1 a2 (Val.mk 0 0 0 [] [] [] [])))))))
def xHW(a0:List Str)(a1:List Str):List Arg:=[.val (vS .ro .str a0),.val (vS .ro .str a1)]
def NE(r:(List Str)):CallO:=(cO (vS .own .str r))
def CJ(N:Nat):Nat->(List Str)->(List Str)->(List Str)->Int->Int->Option ((List Str))
 |0,_,_,_,_,_=>none
 |n+1,x1,x5,x9,x10,x11=>bif(decide (x11<x10)) then(if(0:Int)<=x11/\x11<x9.length then(FR N x1 (x9.getD x11.toNat Ds)).bind fun r1=>bif(decide (r1<0)) then(if x5.length+ [(x9.getD x11.toNat Ds)].length<=Lim then(CJ N n x1 (x5++ [(x9.getD x11.toNat Ds)]) x9 x10 (i64.wrap (x11+1))) else none) else((CJ N n x1 x5 x9 x10 (i64.wrap (x11+1)))) else none) else(some x5)
def FW(N:Nat)(a0:List Str)(a1:List Str):Option ((List Str)):=(CJ N N a1 [] a0 (a0.length:Int) 0)
def xG6(a0:Val)(a1:Val)(a2:Val):List Arg:=[.val (vV .ro a0),.val (vV .ro a1),.val (vV .ro a2)]
def xG9(r:Val×Bool):CallO:=⟨.v true [.int .i64 (Val.kind r.1),.int .i64 (Val.n r.1),.int .i64 (Val.step r.1),.str (Val.text r.1),.sl .ro .val (Val.list r.1),.sl .ro .str (Val.columns r.1),.sl .ro .row (Val.rows r.1)],[],[]⟩
def xG8(r:Val×Bool):CallO:=⟨.v true [.int .i64 (Val.kind r.1),.int .i64 (Val.n r.1),.int .i64 (Val.step r.1),.str (Val.text r.1),.sl .own .val (Val.list r.1),.sl .own .str (Val.columns r.1),.sl .own .row (Val.rows r.1)],[],[]⟩
def Gb(r:Val×Bool):CallO:=bif r.2 then xG9 r else xG8 r
def Cs(N:Nat)(k13:Int->Int->(List Rowd)->Int->Int->Val->Val->Val->Option (Val×Bool)):Nat->Int->Int->(List Rowd)->Int->Int->(List Rowd)->Int->Int->Val->Val->Val->Rowd->Option (Val×Bool)
 |0,_,_,_,_,_,_,_,_,_,_,_,_=>none
 |n+1,x9,x10,x69,x70,x71,x76,x77,x78,b5,b6,b12,b14=>bif(decide (x78<x77)) then(if(0:Int)<=x78/\x78<x76.length then if(0:Int)<=x9/\x9<b14.cells.length then if(0:Int)<=x10/\x10<(List.length (Rowd.cells (x76.getD x78.toNat Dr))) then bif((b14.cells.getD x9.toNat Di) != (List.getD (Rowd.cells (x76.getD x78.toNat Dr)) x10.toNat Di)) then((Cs N k13 n x9 x10 x69 x70 x71 x76 x77 (i64.wrap (x78+1)) b5 b6 b12 b14)) else(if 0+b14.cells.length<=Lim then if(0:Int)<=x10/\x10<=(List.length (Rowd.cells (x76.getD x78.toNat Dr))) then if List.length ([]++b14.cells)+List.length (List.take x10.toNat (Rowd.cells (x76.getD x78.toNat Dr)))<=Lim then if(0:Int)<=(i64.wrap (x10+1))/\(i64.wrap (x10+1))<=(List.length (Rowd.cells (x76.getD x78.toNat Dr))) then if List.length (([]++b14.cells)++(List.take x10.toNat (Rowd.cells (x76.getD x78.toNat Dr))))+List.length (List.drop (Int.toNat (i64.wrap (x10+1))) (Rowd.cells (x76.getD x78.toNat Dr)))<=Lim then(Gk N b14.frm (Rowd.frm (x76.getD x78.toNat Dr))).bind fun r1=>if b12.rows.length+List.length [(Rowd.mk ((([]++b14.cells)++(List.take x10.toNat (Rowd.cells (x76.getD x78.toNat Dr))))++(List.drop (Int.toNat (i64.wrap (x10+1))) (Rowd.cells (x76.getD x78.toNat Dr)))) r1)]<=Lim then(Cs N k13 n x9 x10 x69 x70 x71 x76 x77 (i64.wrap (x78+1)) b5 b6 (Val.mk b12.kind b12.n b12.step b12.text b12.list b12.columns (b12.rows++ [(Rowd.mk ((([]++b14.cells)++(List.take x10.toNat (Rowd.cells (x76.getD x78.toNat Dr))))++(List.drop (Int.toNat (i64.wrap (x10+1))) (Rowd.cells (x76.getD x78.toNat Dr)))) r1)])) b14)
    else none else none else none else none else none else none) else none else none else none) else((k13 x9 x10 x69 x70 (i64.wrap (x71+1)) b5 b6 b12))
def B9(N:Nat):Nat->Int->Int->(List Rowd)->Int->Int->Val->Val->Val->Option (Val×Bool)
 |0,_,_,_,_,_,_,_,_=>none
 |n+1,x9,x10,x69,x70,x71,b5,b6,b12=>bif(decide (x71<x70)) then(if(0:Int)<=x71/\x71<x69.length then(Cs N (fun z0 z1 z2 z3 z4 z5 z6 z7=>(B9 N n z0 z1 z2 z3 z4 z5 z6 z7)) N x9 x10 x69 x70 x71 b5.rows (b5.rows.length:Int) 0 b5 b6 b12 (x69.getD x71.toNat Dr)) else none) else(bif(decide ((b12.rows.length:Int)>12)) then((yT N 6).bind fun r1=>some (r1,false)) else(some (b12,false)))
def Cr(N:Nat)(a0:Val)(a1:Val)(a2:Val):Option (Val×Bool):=(Ah N [2,5,5] [a0.re,a1.re,a2.re]).bind fun r1=>bif r1.2.2 then(if List.isEmpty r1.1.list=true then if List.isEmpty r1.1.columns=true then if List.isEmpty r1.1.rows=true then bif r1.2.1 then(some ((Val.mk r1.1.kind r1.1.n r1.1.step r1.1.text [] [] []),true)) else((zZ N a1 a0.text).bind fun r2=>(zZ N a2 a0.text).bind fun r3=>(FW N a2.columns [a0.text]).bind fun r4=>if 0+a1.columns.length<=Lim then if List.length ([]++a1.columns)+r4.length<=Lim then bif(decide (r2<0)) then((yT N 7).bind fun r5=>some (r5,false)) else(bif(decide (r3<0)) then((yT N 7).bind fun r5=>some (r5,false)) else((Dt N (([]++a1.columns)++r4)).bind fun r5=>bif(!r5) then((yT N 7).bind fun r6=>some (r6,false)) else(bif(decide (((List.length (([]++a1.columns)++r4):Int):Int)>4)) then((yT N 6).bind fun r6=>some (r6,false)) else((B9 N N r2 r3 a1.rows (a1.rows.length:Int) 0 a2 (Val.mk 0 0 0 [] [] [] []) (Val.mk 5 0 0 [] [] (([]++a1.columns)++r4) [])))))) else none else none) else none else none else none) else(bif r1.2.1 then(some (r1.1,false)) else((zZ N a1 a0.text).bind fun r2=>(zZ N a2 a0.text).bind fun r3=>(FW N a2.columns [a0.text]).bind fun r4=>if 0+a1.columns.length<=Lim then if List.length ([]++a1.columns)+r4.length<=Lim then bif(decide (r2<0)) then((yT N 7).bind fun r5=>some (r5,false)) else(bif(decide (r3<0)) then((yT N 7).bind fun r5=>
     some (r5,false)) else((Dt N (([]++a1.columns)++r4)).bind fun r5=>bif(!r5) then((yT N 7).bind fun r6=>some (r6,false)) else(bif(decide (((List.length (([]++a1.columns)++r4):Int):Int)>4)) then((yT N 6).bind fun r6=>some (r6,false)) else((B9 N N r2 r3 a1.rows (a1.rows.length:Int) 0 a2 (Val.mk 0 0 0 [] [] [] []) (Val.mk 5 0 0 [] [] (([]++a1.columns)++r4) [])))))) else none else none))
def xGl(a0:Val)(a1:Val)(a2:Val)(a3:Val):List Arg:=[.val (vV .ro a0),.val (vV .ro a1),.val (vV .ro a2),.val (vV .ro a3)]
def xGo(r:Val×Bool):CallO:=⟨.v true [.int .i64 (Val.kind r.1),.int .i64 (Val.n r.1),.int .i64 (Val.step r.1),.str (Val.text r.1),.sl .ro .val (Val.list r.1),.sl .ro .str (Val.columns r.1),.sl .ro .row (Val.rows r.1)],[],[]⟩
def xGn(r:Val×Bool):CallO:=⟨.v true [.int .i64 (Val.kind r.1),.int .i64 (Val.n r.1),.int .i64 (Val.step r.1),.str (Val.text r.1),.sl .own .val (Val.list r.1),.sl .own .str (Val.columns r.1),.sl .own .row (Val.rows r.1)],[],[]⟩
def Ml(r:Val×Bool):CallO:=bif r.2 then xGo r else xGn r
def B7(N:Nat):Nat->Int->Int->(List Rowd)->Int->Int->Val->Val->Option (Val×Bool)
 |0,_,_,_,_,_,_,_=>none
 |n+1,x11,x12,x72,x73,x74,b8,b13=>bif(decide (x74<x73)) then(if(0:Int)<=x74/\x74<x72.length then if(0:Int)<=x11/\x11<(List.length (Rowd.cells (x72.getD x74.toNat Dr))) then if(0:Int)<=x12/\x12<(List.length (Rowd.cells (x72.getD x74.toNat Dr))) then(BP N (i64.wrap ((List.getD (Rowd.cells (x72.getD x74.toNat Dr)) x11.toNat Di)+(List.getD (Rowd.cells (x72.getD x74.toNat Dr)) x12.toNat Di)))).bind fun r1=>bif(!r1) then((yT N 5).bind fun r2=>some (r2,false)) else(if(0:Int)<=x74/\x74<b13.rows.length then if List.length (Rowd.cells (b13.rows.getD x74.toNat Dr))+ [(i64.wrap ((List.getD (Rowd.cells (x72.getD x74.toNat Dr)) x11.toNat Di)+(List.getD (Rowd.cells (x72.getD x74.toNat Dr)) x12.toNat Di)))].length<=Lim then(B7 N n x11 x12 x72 x73 (i64.wrap (x74+1)) b8 (Val.mk b13.kind b13.n b13.step b13.text b13.list b13.columns (b13.rows.set x74.toNat (Rowd.mk ((Rowd.cells (b13.rows.getD x74.toNat Dr))++ [(i64.wrap ((List.getD (Rowd.cells (x72.getD x74.toNat Dr)) x11.toNat Di)+(List.getD (Rowd.cells (x72.getD x74.toNat Dr)) x12.toNat Di)))]) (Rowd.frm (b13.rows.getD x74.toNat Dr)))))) else none else none) else none else none else none) else(some (b13,false))
def BL(N:Nat)(a0:Val)(a1:Val)(a2:Val)(a3:Val):Option (Val×Bool):=(Ah N [2,2,2,5] [a0.re,a1.re,a2.re,a3.re]).bind fun r1=>bif r1.2.2 then(if List.isEmpty r1.1.list=true then if List.isEmpty r1.1.columns=true then if List.isEmpty r1.1.rows=true then bif r1.2.1 then(some ((Val.mk r1.1.kind r1.1.n r1.1.step r1.1.text [] [] []),true)) else((zZ N a3 a1.text).bind fun r2=>(zZ N a3 a2.text).bind fun r3=>(Dy N a0.text).bind fun r4=>bif(!r4) then((yT N 7).bind fun r5=>some (r5,false)) else((zZ N a3 a0.text).bind fun r5=>bif(decide (r5>=0)) then((yT N 7).bind fun r6=>some (r6,false)) else(bif(decide (r2<0)) then((yT N 7).bind fun r6=>some (r6,false)) else(bif(decide (r3<0)) then((yT N 7).bind fun r6=>some (r6,false)) else(bif(decide ((a3.columns.length:Int)>=4)) then((yT N 6).bind fun r6=>some (r6,false)) else((Cy N a3).bind fun r6=>if r6.columns.length+ [a0.text].length<=Lim then(B7 N N r2 r3 a3.rows (a3.rows.length:Int) 0 (Val.mk 0 0 0 [] [] [] []) (Val.mk r6.kind r6.n r6.step r6.text r6.list (r6.columns++ [a0.text]) r6.rows)) else none)))))) else none else none else none) else(bif r1.2.1 then(some (r1.1,false)) else((zZ N a3 a1.text).bind fun r2=>(zZ N a3 a2.text).bind fun r3=>(Dy N a0.text).bind fun r4=>bif(!r4) then((yT N 7).bind fun r5=>some (r5,false)) else((zZ N a3 a0.text).bind fun r5=>
     bif(decide (r5>=0)) then((yT N 7).bind fun r6=>some (r6,false)) else(bif(decide (r2<0)) then((yT N 7).bind fun r6=>some (r6,false)) else(bif(decide (r3<0)) then((yT N 7).bind fun r6=>some (r6,false)) else(bif(decide ((a3.columns.length:Int)>=4)) then((yT N 6).bind fun r6=>some (r6,false)) else((Cy N a3).bind fun r6=>if r6.columns.length+ [a0.text].length<=Lim then(B7 N N r2 r3 a3.rows (a3.rows.length:Int) 0 (Val.mk 0 0 0 [] [] [] []) (Val.mk r6.kind r6.n r6.step r6.text r6.list (r6.columns++ [a0.text]) r6.rows)) else none)))))))
def xGt(a0:Str)(a1:List Val):List Arg:=[.val (vT a0),.val (vS .ro .val a1)]
def Im(r:Val×Bool):CallO:=⟨.v true [.int .i64 (Val.kind r.1),.int .i64 (Val.n r.1),.int .i64 (Val.step r.1),.str (Val.text r.1),.sl .ro .val (Val.list r.1),.sl .ro .str (Val.columns r.1),.sl .ro .row (Val.rows r.1)],[],[]⟩
def xGv(r:Val×Bool):CallO:=⟨.v true [.int .i64 (Val.kind r.1),.int .i64 (Val.n r.1),.int .i64 (Val.step r.1),.str (Val.text r.1),.sl .own .val (Val.list r.1),.sl .own .str (Val.columns r.1),.sl .own .row (Val.rows r.1)],[],[]⟩
def xGu(r:Val×Bool):CallO:=⟨.v true [.int .i64 (Val.kind r.1),.int .i64 (Val.n r.1),.int .i64 (Val.step r.1),.str (Val.text r.1),.sl .ro .val [],.sl .ro .str [],.sl .ro .row []],[],[]⟩
def GZ(r:Val×Bool):CallO:=bif r.2 then Im r else xGv r
def BA(N:Nat)(a0:Str)(a1:List Val):Option (Val×Bool):=(Gs N a0).bind fun r1=>bif r1 then((yT N 4).bind fun r2=>some (r2,false)) else((Du N a0).bind fun r2=>bif((a1.length:Int) != r2) then((yT N 4).bind fun r3=>some (r3,false)) else(bif((a0:Str)== [108,101,110]) then(if(0:Int)<=0/\(0:Int)<a1.length then(Gc N (a1.getD (Int.toNat 0) Dv)).bind fun r3=>bif r3.2 then(some (r3.1,true)) else(some (r3.1,false)) else none) else(bif((a0:Str)== [115,117,109]) then(if(0:Int)<=0/\(0:Int)<a1.length then(Gi N (a1.getD (Int.toNat 0) Dv)).bind fun r3=>bif r3.2 then(some (r3.1,true)) else(some (r3.1,false)) else none) else(bif((a0:Str)== [114,111,119,115]) then(if(0:Int)<=0/\(0:Int)<a1.length then(G0 N (a1.getD (Int.toNat 0) Dv)).bind fun r3=>bif r3.2 then(some (r3.1,true)) else(some (r3.1,false)) else none) else(bif((a0:Str)== [116,97,107,101]) then(if(0:Int)<=0/\(0:Int)<a1.length then if(0:Int)<=1/\(1:Int)<a1.length then(Cx N (a1.getD (Int.toNat 0) Dv) (a1.getD (Int.toNat 1) Dv)).bind fun r3=>bif r3.2 then(some (r3.1,true)) else(some (r3.1,false)) else none else none) else(bif((a0:Str)== [115,107,105,112]) then(if(0:Int)<=0/\(0:Int)<a1.length then if(0:Int)<=1/\(1:Int)<a1.length then(Cv N (a1.getD (Int.toNat 0) Dv) (a1.getD (Int.toNat 1) Dv)).bind fun r3=>bif r3.2 then(some (r3.1,true)) else(some (r3.1,false)) else none else none) else(bif((a0:Str)== [110,116,104]) then(if(0:Int)<=0/\(0:Int)<a1.length then if(0:Int)<=1/\(1:Int)<a1.length then
     (A7 N (a1.getD (Int.toNat 0) Dv) (a1.getD (Int.toNat 1) Dv)).bind fun r3=>bif r3.2 then(some (r3.1,true)) else(some (r3.1,false)) else none else none) else(bif((a0:Str)== [107,101,101,112]) then(if(0:Int)<=0/\(0:Int)<a1.length then if(0:Int)<=1/\(1:Int)<a1.length then(FT N (a1.getD (Int.toNat 0) Dv) (a1.getD (Int.toNat 1) Dv)).bind fun r3=>bif r3.2 then(some (r3.1,true)) else(some (r3.1,false)) else none else none) else(bif((a0:Str)== [99,111,108,117,109,110]) then(if(0:Int)<=0/\(0:Int)<a1.length then if(0:Int)<=1/\(1:Int)<a1.length then(Dw N (a1.getD (Int.toNat 0) Dv) (a1.getD (Int.toNat 1) Dv)).bind fun r3=>bif r3.2 then(some (r3.1,true)) else(some (r3.1,false)) else none else none) else(bif((a0:Str)== [116,97,98,108,101]) then(if(0:Int)<=0/\(0:Int)<a1.length then if(0:Int)<=1/\(1:Int)<a1.length then(FV N (a1.getD (Int.toNat 0) Dv) (a1.getD (Int.toNat 1) Dv)).bind fun r3=>bif r3.2 then(some (r3.1,true)) else(some (r3.1,false)) else none else none) else(bif((a0:Str)== [119,104,101,114,101]) then(if(0:Int)<=0/\(0:Int)<a1.length then if(0:Int)<=1/\(1:Int)<a1.length then if(0:Int)<=2/\(2:Int)<a1.length then(EB N (a1.getD (Int.toNat 0) Dv) (a1.getD (Int.toNat 1) Dv) (a1.getD (Int.toNat 2) Dv)).bind fun r3=>bif r3.2 then(some (r3.1,true)) else(some (r3.1,false)) else none else none else none) else(bif((a0:Str)== [103,114,111,117,112]) then(if(0:Int)<=0/\(0:Int)<a1.length then if(0:Int)<=1/\(1:Int)<a1.length then if(0:Int)<=2/\(2:Int)<a1.length then
       (CG N (a1.getD (Int.toNat 0) Dv) (a1.getD (Int.toNat 1) Dv) (a1.getD (Int.toNat 2) Dv)).bind fun r3=>bif r3.2 then(some (r3.1,true)) else(some (r3.1,false)) else none else none else none) else(bif((a0:Str)== [106,111,105,110]) then(if(0:Int)<=0/\(0:Int)<a1.length then if(0:Int)<=1/\(1:Int)<a1.length then if(0:Int)<=2/\(2:Int)<a1.length then(Cr N (a1.getD (Int.toNat 0) Dv) (a1.getD (Int.toNat 1) Dv) (a1.getD (Int.toNat 2) Dv)).bind fun r3=>bif r3.2 then(some (r3.1,true)) else(some (r3.1,false)) else none else none else none) else(bif((a0:Str)== [97,100,100]) then(if(0:Int)<=0/\(0:Int)<a1.length then if(0:Int)<=1/\(1:Int)<a1.length then if(0:Int)<=2/\(2:Int)<a1.length then if(0:Int)<=3/\(3:Int)<a1.length then(BL N (a1.getD (Int.toNat 0) Dv) (a1.getD (Int.toNat 1) Dv) (a1.getD (Int.toNat 2) Dv) (a1.getD (Int.toNat 3) Dv)).bind fun r3=>bif r3.2 then(some (r3.1,true)) else(some (r3.1,false)) else none else none else none else none) else((Ah N [1,1] a1).bind fun r3=>bif r3.2.2 then(if List.isEmpty r3.1.list=true then if List.isEmpty r3.1.columns=true then if List.isEmpty r3.1.rows=true then bif r3.2.1 then(some ((Val.mk r3.1.kind r3.1.n r3.1.step r3.1.text [] [] []),true)) else(if(0:Int)<=0/\(0:Int)<a1.length then if(0:Int)<=1/\(1:Int)<a1.length then(CH N (Val.n (a1.getD (Int.toNat 0) Dv)) (Val.n (a1.getD (Int.toNat 1) Dv))).bind fun r4=>some (r4,false) else none else none) else none else none else none) else(bif r3.2.1 then(
         some (r3.1,false)) else(if(0:Int)<=0/\(0:Int)<a1.length then if(0:Int)<=1/\(1:Int)<a1.length then(CH N (Val.n (a1.getD (Int.toNat 0) Dv)) (Val.n (a1.getD (Int.toNat 1) Dv))).bind fun r4=>some (r4,false) else none else none)))))))))))))))))
def xJk(a0:List Str)(a1:List Str):List Arg:=[.val (vS .ro .str a0),.val (vS .ro .str a1)]
def NY(r:Bool):CallO:=(cO (vB r))
def EM(N:Nat):Nat->(List Str)->(List Str)->Int->Option (Bool)
 |0,_,_,_=>none
 |n+1,x0,x1,x5=>bif(decide (x5<(x0.length:Int))) then(if(0:Int)<=x5/\x5<x0.length then if(0:Int)<=x5/\x5<x1.length then bif(!(((x0.getD x5.toNat Ds):Str)==(x1.getD x5.toNat Ds))) then(some false) else((EM N n x0 x1 (i64.wrap (x5+1)))) else none else none) else(some true)
def HA(N:Nat)(a0:List Str)(a1:List Str):Option (Bool):=bif((a0.length:Int) != (a1.length:Int)) then(some false) else((EM N N a0 a1 0))
def xI8(a0:List Int)(a1:List Int):List Arg:=[.val (vS .ro .int a0),.val (vS .ro .int a1)]
def NV(r:Bool):CallO:=(cO (vB r))
def EJ(N:Nat):Nat->(List Int)->(List Int)->Int->Option (Bool)
 |0,_,_,_=>none
 |n+1,x0,x1,x5=>bif(decide (x5<(x0.length:Int))) then(if(0:Int)<=x5/\x5<x0.length then if(0:Int)<=x5/\x5<x1.length then bif((x0.getD x5.toNat Di) != (x1.getD x5.toNat Di)) then(some false) else((EJ N n x0 x1 (i64.wrap (x5+1)))) else none else none) else(some true)
def Gv(N:Nat)(a0:List Int)(a1:List Int):Option (Bool):=bif((a0.length:Int) != (a1.length:Int)) then(some false) else((EJ N N a0 a1 0))
def xJc(a0:Org)(a1:Org):List Arg:=[.val (.v true [.int .i64 a0.cell,.int .i64 a0.row]),.val (.v true [.int .i64 a1.cell,.int .i64 a1.row])]
def xJe(r:Bool):CallO:=(cO (vB r))
def Gw(N:Nat)(a0:Org)(a1:Org):Option (Bool):=bif(a0.cell != a1.cell) then(some false) else(bif(a0.row != a1.row) then(some false) else(some true))
def xJa(a0:List Org)(a1:List Org):List Arg:=[.val (vS .ro .org a0),.val (vS .ro .org a1)]
def NW(r:Bool):CallO:=(cO (vB r))
def EK(N:Nat):Nat->(List Org)->(List Org)->Int->Option (Bool)
 |0,_,_,_=>none
 |n+1,x0,x1,x5=>bif(decide (x5<(x0.length:Int))) then(if(0:Int)<=x5/\x5<x0.length then if(0:Int)<=x5/\x5<x1.length then(Gw N (x0.getD x5.toNat Do) (x1.getD x5.toNat Do)).bind fun r1=>bif(!r1) then(some false) else((EK N n x0 x1 (i64.wrap (x5+1)))) else none else none) else(some true)
def Gx(N:Nat)(a0:List Org)(a1:List Org):Option (Bool):=bif((a0.length:Int) != (a1.length:Int)) then(some false) else((EK N N a0 a1 0))
def xJh(a0:Rowd)(a1:Rowd):List Arg:=[.val (.v true [.sl .ro .int a0.cells,.sl .ro .org a0.frm]),.val (.v true [.sl .ro .int a1.cells,.sl .ro .org a1.frm])]
def xJj(r:Bool):CallO:=(cO (vB r))
def Gy(N:Nat)(a0:Rowd)(a1:Rowd):Option (Bool):=(Gv N a0.cells a1.cells).bind fun r1=>bif(!r1) then(some false) else((Gx N a0.frm a1.frm).bind fun r2=>bif(!r2) then(some false) else(some true))
def xJf(a0:List Rowd)(a1:List Rowd):List Arg:=[.val (vS .ro .row a0),.val (vS .ro .row a1)]
def NX(r:Bool):CallO:=(cO (vB r))
def EL(N:Nat):Nat->(List Rowd)->(List Rowd)->Int->Option (Bool)
 |0,_,_,_=>none
 |n+1,x0,x1,x5=>bif(decide (x5<(x0.length:Int))) then(if(0:Int)<=x5/\x5<x0.length then if(0:Int)<=x5/\x5<x1.length then(Gy N (x0.getD x5.toNat Dr) (x1.getD x5.toNat Dr)).bind fun r1=>bif(!r1) then(some false) else((EL N n x0 x1 (i64.wrap (x5+1)))) else none else none) else(some true)
def Gz(N:Nat)(a0:List Rowd)(a1:List Rowd):Option (Bool):=bif((a0.length:Int) != (a1.length:Int)) then(some false) else((EL N N a0 a1 0))
def JK(a0:Val)(a1:Val):List Arg:=[.val (vV .ro a0),.val (vV .ro a1)]
def JL(r:Bool):CallO:=(cO (vB r))
def HE(N:Nat)(q0:Val->Val->Option (Bool))(q1:(List Val)->(List Val)->Option (Bool))(a0:Val)(a1:Val):Option (Bool):=bif(a0.kind != a1.kind) then(some false) else(bif(a0.n != a1.n) then(some false) else(bif(a0.step != a1.step) then(some false) else(bif(!((a0.text:Str)==a1.text)) then(some false) else((q1 a0.list a1.list).bind fun r1=>bif(!r1) then(some false) else((HA N a0.columns a1.columns).bind fun r2=>bif(!r2) then(some false) else((Gz N a0.rows a1.rows).bind fun r3=>bif(!r3) then(some false) else(some true)))))))
def JJ(a0:List Val)(a1:List Val):List Arg:=[.val (vS .ro .val a0),.val (vS .ro .val a1)]
def HD(r:Bool):CallO:=(cO (vB r))
def EN(N:Nat)(q0:Val->Val->Option (Bool))(q1:(List Val)->(List Val)->Option (Bool)):Nat->(List Val)->(List Val)->Int->Option (Bool)
 |0,_,_,_=>none
 |n+1,x0,x1,x5=>bif(decide (x5<(x0.length:Int))) then(if(0:Int)<=x5/\x5<x0.length then if(0:Int)<=x5/\x5<x1.length then(q0 (x0.getD x5.toNat Dv) (x1.getD x5.toNat Dv)).bind fun r1=>bif(!r1) then(some false) else((EN N q0 q1 n x0 x1 (i64.wrap (x5+1)))) else none else none) else(some true)
def HC(N:Nat)(q0:Val->Val->Option (Bool))(q1:(List Val)->(List Val)->Option (Bool))(a0:List Val)(a1:List Val):Option (Bool):=bif((a0.length:Int) != (a1.length:Int)) then(some false) else((EN N q0 q1 N a0 a1 0))
structure laws_eqValue_rec where
 c_laws_eqValue:Val->Val->Option (Bool)
 c_laws_eqValueS:(List Val)->(List Val)->Option (Bool)
def AK(N:Nat):Nat->laws_eqValue_rec
 |0=>⟨fun _ _=>none,fun _ _=>none⟩
 |d+1=>⟨HE N (AK N d).c_laws_eqValue (AK N d).c_laws_eqValueS,HC N (AK N d).c_laws_eqValue (AK N d).c_laws_eqValueS⟩
def BQ(N:Nat)(a0:Val)(a1:Val):Option (Bool):=(AK N N).c_laws_eqValue a0 a1
def HB(N:Nat)(a0:List Val)(a1:List Val):Option (Bool):=(AK N N).c_laws_eqValueS a0 a1
def xJI(a0:Int):List Arg:=[.val (vI a0)]
def Nh(r:Str):CallO:=(cO (vT r))
def EW(N:Nat):Nat->Int->Str->Option (Str)
 |0,_,_=>none
 |n+1,x0,x3=>bif(decide (x0>0)) then(if List.length (List.map (fun n=>UInt8.ofNat (Int.toNat n)) [(IntKind.u8.wrap ((i64.wrap (48+(Int.tmod x0 10)))))])+x3.length<=Lim then(EW N n (i64.wrap (Int.tdiv x0 10)) ((List.map (fun n=>UInt8.ofNat (Int.toNat n)) [(IntKind.u8.wrap ((i64.wrap (48+(Int.tmod x0 10)))))])++x3)) else none) else(if [109].length+x3.length<=Lim then some ([109]++x3) else none)
def CR(N:Nat)(a0:Int):Option (Str):=bif(decide (a0<=0)) then(some [109,48]) else((EW N N a0 []))
def xJF(a0:List Str)(a1:Int):List Arg:=[.val (vS .ro .str []),.val (vI a1)]
def Nd(r:Int):CallO:=(cO (vI r))
def JV(N:Nat):Nat->Int->Int->Option (Int)
 |0,_,_=>none
 |n+1,x1,x5=>bif(decide (x5<(0:Int))) then((CR N x1).bind fun r1=>if(0:Int)<=x5/\x5<(0) then none else none) else(some x1)
def JU(N:Nat)(a0:List Str)(a1:Int):Option (Int):=(JV N N a1 0)
def xJH(a0:List Str)(a1:Int):List Arg:=[.val (vS (.lnt 0) .str a0),.val (vI a1)]
def Ng(r:Int×(List Str)):CallO:=⟨(vI r.1),[],[.sl (.lnt 0) .str r.2]⟩
def EV(N:Nat):Nat->(List Str)->Int->Int->Option (Int×(List Str))
 |0,_,_,_=>none
 |n+1,x0,x1,x5=>bif(decide (x5<(x0.length:Int))) then((CR N x1).bind fun r1=>if(0:Int)<=x5/\x5<x0.length then(EV N n (x0.set x5.toNat r1) (i64.wrap (x1+1)) (i64.wrap (x5+1))) else none) else(some (x1,x0))
def HI(N:Nat)(a0:List Str)(a1:Int):Option (Int×(List Str)):=(EV N N a0 a1 0)
def xJy(a0:List Int)(a1:Int):List Arg:=[.val (vS (.lnt 0) .int a0),.val (vI a1)]
def N8(r:Int×(List Int)):CallO:=⟨(vI r.1),[],[.sl (.lnt 0) .int r.2]⟩
def ES(N:Nat):Nat->(List Int)->Int->Int->Option (Int×(List Int))
 |0,_,_,_=>none
 |n+1,x0,x1,x5=>bif(decide (x5<(x0.length:Int))) then(if(0:Int)<=x5/\x5<x0.length then(ES N n (x0.set x5.toNat x1) (i64.wrap (x1+1)) (i64.wrap (x5+1))) else none) else(some (x1,x0))
def JQ(N:Nat)(a0:List Int)(a1:Int):Option (Int×(List Int)):=(ES N N a0 a1 0)
def xJC(a0:List Rowd)(a1:Int):List Arg:=[.val (vS .ro .row []),.val (vI a1)]
def Na(r:Int):CallO:=(cO (vI r))
def JT(N:Nat):Nat->Int->Int->Option (Int)
 |0,_,_=>none
 |n+1,x1,x5=>bif(decide (x5<(0:Int))) then(if(0:Int)<=x5/\x5<(0) then none else none) else(some x1)
def JS(N:Nat)(a0:List Rowd)(a1:Int):Option (Int):=(JT N N a1 0)
def xJM(a0:Val)(a1:Int):List Arg:=[.val (.v true [.int .i64 a0.kind,.int .i64 a0.n,.int .i64 a0.step,.str a0.text,.sl .ro .val [],.sl .ro .str [],.sl .ro .row []]),.val (vI a1)]
def xJO(r:Int):CallO:=(cO (vI r))
def HK(N:Nat)(a0:Val)(a1:Int):Option (Int):=(JW N [] a1).bind fun r1=>(JU N [] r1).bind fun r2=>(JS N [] r2).bind fun r3=>some r3
def xJA(a0:List Org)(a1:Int):List Arg:=[.val (vS (.lnt 0) .org a0),.val (vI a1)]
def N9(r:Int×(List Org)):CallO:=⟨(vI r.1),[],[.sl (.lnt 0) .org r.2]⟩
def ET(N:Nat):Nat->(List Org)->Int->Int->Option (Int×(List Org))
 |0,_,_,_=>none
 |n+1,x0,x1,x5=>bif(decide (x5<(x0.length:Int))) then(if(0:Int)<=x5/\x5<x0.length then if(0:Int)<=x5/\x5<(List.length (x0.set x5.toNat (Org.mk x1 (Org.row (x0.getD x5.toNat Do))))) then(ET N n ((fun(z1:List Org)=>z1.set x5.toNat (Org.mk (Org.cell (z1.getD x5.toNat Do)) (i64.wrap (x1+1)))) (x0.set x5.toNat (Org.mk x1 (Org.row (x0.getD x5.toNat Do))))) (i64.wrap ((i64.wrap (x1+1))+1)) (i64.wrap (x5+1))) else none else none) else(some (x1,x0))
def JR(N:Nat)(a0:List Org)(a1:Int):Option (Int×(List Org)):=(ET N N a0 a1 0)
def xJE(a0:List Rowd)(a1:Int):List Arg:=[.val (vS (.lnt 0) .row a0),.val (vI a1)]
def Nc(r:Int×(List Rowd)):CallO:=⟨(vI r.1),[],[.sl (.lnt 0) .row r.2]⟩
def EU(N:Nat):Nat->(List Rowd)->Int->Int->Option (Int×(List Rowd))
 |0,_,_,_=>none
 |n+1,x0,x1,x5=>bif(decide (x5<(x0.length:Int))) then(if(0:Int)<=x5/\x5<x0.length then(JQ N (Rowd.cells (x0.getD x5.toNat Dr)) x1).bind fun r1=>if r1.2.length=List.length (Rowd.cells (x0.getD x5.toNat Dr)) then if(0:Int)<=x5/\x5<(List.length (x0.set x5.toNat (Rowd.mk r1.2 (Rowd.frm (x0.getD x5.toNat Dr))))) then(JR N (Rowd.frm (List.getD (x0.set x5.toNat (Rowd.mk r1.2 (Rowd.frm (x0.getD x5.toNat Dr)))) x5.toNat Dr)) r1.1).bind fun r2=>if r2.2.length=List.length (Rowd.frm (List.getD (x0.set x5.toNat (Rowd.mk r1.2 (Rowd.frm (x0.getD x5.toNat Dr)))) x5.toNat Dr)) then(EU N n ((fun(z1:List Rowd)=>z1.set x5.toNat (Rowd.mk (Rowd.cells (z1.getD x5.toNat Dr)) r2.2)) (x0.set x5.toNat (Rowd.mk r1.2 (Rowd.frm (x0.getD x5.toNat Dr))))) r2.1 (i64.wrap (x5+1))) else none else none else none else none) else(some (x1,x0))
def HH(N:Nat)(a0:List Rowd)(a1:Int):Option (Int×(List Rowd)):=(EU N N a0 a1 0)
def JY(a0:List Val)(a1:Int):List Arg:=[.val (vS (.lnt 0) .val a0),.val (vI a1)]
def HJ(r:Int×(List Val)):CallO:=⟨(vI r.1),[],[.sl (.lnt 0) .val r.2]⟩
def EY(N:Nat)(q0:(List Val)->Int->Option (Int×(List Val))):Nat->(List Val)->Int->Int->Option (Int×(List Val))
 |0,_,_,_=>none
 |n+1,x0,x1,x5=>bif(decide (x5<(x0.length:Int))) then(if(0:Int)<=x5/\x5<x0.length then if(0:Int)<=x5/\x5<(List.length (x0.set x5.toNat (Val.mk x1 (Val.n (x0.getD x5.toNat Dv)) (Val.step (x0.getD x5.toNat Dv)) (Val.text (x0.getD x5.toNat Dv)) (Val.list (x0.getD x5.toNat Dv)) (Val.columns (x0.getD x5.toNat Dv)) (Val.rows (x0.getD x5.toNat Dv))))) then if(0:Int)<=x5/\x5<(List.length ((fun(z40:List Val)=>z40.set x5.toNat (Val.mk (Val.kind (z40.getD x5.toNat Dv)) (i64.wrap (x1+1)) (Val.step (z40.getD x5.toNat Dv)) (Val.text (z40.getD x5.toNat Dv)) (Val.list (z40.getD x5.toNat Dv)) (Val.columns (z40.getD x5.toNat Dv)) (Val.rows (z40.getD x5.toNat Dv)))) (x0.set x5.toNat (Val.mk x1 (Val.n (x0.getD x5.toNat Dv)) (Val.step (x0.getD x5.toNat Dv)) (Val.text (x0.getD x5.toNat Dv)) (Val.list (x0.getD x5.toNat Dv)) (Val.columns (x0.getD x5.toNat Dv)) (Val.rows (x0.getD x5.toNat Dv)))))) then(CR N (i64.wrap ((i64.wrap ((i64.wrap (x1+1))+1))+1))).bind fun r1=>if(0:Int)<=x5/\x5<(List.length ((fun(z41:List Val)=>z41.set x5.toNat (Val.mk (Val.kind (z41.getD x5.toNat Dv)) (Val.n (z41.getD x5.toNat Dv)) (i64.wrap ((i64.wrap (x1+1))+1)) (Val.text (z41.getD x5.toNat Dv)) (Val.list (z41.getD x5.toNat Dv)) (Val.columns (z41.getD x5.toNat Dv)) (Val.rows (z41.getD x5.toNat Dv)))) ((fun(z40:List Val)=>z40.set x5.toNat (Val.mk (Val.kind (z40.getD x5.toNat Dv)) (i64.wrap (x1+1)) (Val.step (z40.getD x5.toNat Dv)) (Val.text (z40.getD x5.toNat Dv)) (Val.list (z40.getD x5.toNat Dv)) (Val.columns (z40.getD x5.toNat Dv)) (Val.rows (z40.getD x5.toNat Dv)))) (x0.set x5.toNat (Val.mk x1 (Val.n (x0.getD x5.toNat Dv)) (Val.step (x0.getD x5.toNat Dv)) (Val.text (x0.getD x5.toNat Dv)) (Val.list (x0.getD x5.toNat Dv)) (Val.columns (x0.getD x5.toNat Dv)) (Val.rows (x0.getD x5.toNat Dv))))))) then
   if(0:Int)<=x5/\x5<(List.length ((fun(z42:List Val)=>z42.set x5.toNat (Val.mk (Val.kind (z42.getD x5.toNat Dv)) (Val.n (z42.getD x5.toNat Dv)) (Val.step (z42.getD x5.toNat Dv)) r1 (Val.list (z42.getD x5.toNat Dv)) (Val.columns (z42.getD x5.toNat Dv)) (Val.rows (z42.getD x5.toNat Dv)))) ((fun(z41:List Val)=>z41.set x5.toNat (Val.mk (Val.kind (z41.getD x5.toNat Dv)) (Val.n (z41.getD x5.toNat Dv)) (i64.wrap ((i64.wrap (x1+1))+1)) (Val.text (z41.getD x5.toNat Dv)) (Val.list (z41.getD x5.toNat Dv)) (Val.columns (z41.getD x5.toNat Dv)) (Val.rows (z41.getD x5.toNat Dv)))) ((fun(z40:List Val)=>z40.set x5.toNat (Val.mk (Val.kind (z40.getD x5.toNat Dv)) (i64.wrap (x1+1)) (Val.step (z40.getD x5.toNat Dv)) (Val.text (z40.getD x5.toNat Dv)) (Val.list (z40.getD x5.toNat Dv)) (Val.columns (z40.getD x5.toNat Dv)) (Val.rows (z40.getD x5.toNat Dv)))) (x0.set x5.toNat (Val.mk x1 (Val.n (x0.getD x5.toNat Dv)) (Val.step (x0.getD x5.toNat Dv)) (Val.text (x0.getD x5.toNat Dv)) (Val.list (x0.getD x5.toNat Dv)) (Val.columns (x0.getD x5.toNat Dv)) (Val.rows (x0.getD x5.toNat Dv)))))))) then(q0 (Val.list (List.getD ((fun(z42:List Val)=>z42.set x5.toNat (Val.mk (Val.kind (z42.getD x5.toNat Dv)) (Val.n (z42.getD x5.toNat Dv)) (Val.step (z42.getD x5.toNat Dv)) r1 (Val.list (z42.getD x5.toNat Dv)) (Val.columns (z42.getD x5.toNat Dv)) (Val.rows (z42.getD x5.toNat Dv)))) ((fun(z41:List Val)=>z41.set x5.toNat (Val.mk (Val.kind (z41.getD x5.toNat Dv)) (Val.n (z41.getD x5.toNat Dv)) (i64.wrap ((i64.wrap (x1+1))+1)) (Val.text (z41.getD x5.toNat Dv)) (Val.list (z41.getD x5.toNat Dv)) (Val.columns (z41.getD x5.toNat Dv)) (Val.rows (z41.getD x5.toNat Dv)))) ((fun(z40:List Val)=>z40.set x5.toNat (Val.mk (Val.kind (z40.getD x5.toNat Dv)) (i64.wrap (x1+1)) (Val.step (z40.getD x5.toNat Dv)) (Val.text (z40.getD x5.toNat Dv)) (Val.list (z40.getD x5.toNat Dv)) (Val.columns (z40.getD x5.toNat Dv)) (Val.rows (z40.getD x5.toNat Dv)))) (x0.set x5.toNat (Val.mk x1 (Val.n (x0.getD x5.toNat Dv)) (Val.step (x0.getD x5.toNat Dv)) (Val.text (x0.getD x5.toNat Dv)) (Val.list (x0.getD x5.toNat Dv)) (Val.columns (x0.getD x5.toNat Dv)) (Val.rows (x0.getD x5.toNat Dv))))))) x5.toNat Dv)) (i64.wrap ((i64.wrap ((i64.wrap ((i64.wrap (x1+1))+1))+1))+1))).bind fun r2=>
   if r2.2.length=List.length (Val.list (List.getD ((fun(z42:List Val)=>z42.set x5.toNat (Val.mk (Val.kind (z42.getD x5.toNat Dv)) (Val.n (z42.getD x5.toNat Dv)) (Val.step (z42.getD x5.toNat Dv)) r1 (Val.list (z42.getD x5.toNat Dv)) (Val.columns (z42.getD x5.toNat Dv)) (Val.rows (z42.getD x5.toNat Dv)))) ((fun(z41:List Val)=>z41.set x5.toNat (Val.mk (Val.kind (z41.getD x5.toNat Dv)) (Val.n (z41.getD x5.toNat Dv)) (i64.wrap ((i64.wrap (x1+1))+1)) (Val.text (z41.getD x5.toNat Dv)) (Val.list (z41.getD x5.toNat Dv)) (Val.columns (z41.getD x5.toNat Dv)) (Val.rows (z41.getD x5.toNat Dv)))) ((fun(z40:List Val)=>z40.set x5.toNat (Val.mk (Val.kind (z40.getD x5.toNat Dv)) (i64.wrap (x1+1)) (Val.step (z40.getD x5.toNat Dv)) (Val.text (z40.getD x5.toNat Dv)) (Val.list (z40.getD x5.toNat Dv)) (Val.columns (z40.getD x5.toNat Dv)) (Val.rows (z40.getD x5.toNat Dv)))) (x0.set x5.toNat (Val.mk x1 (Val.n (x0.getD x5.toNat Dv)) (Val.step (x0.getD x5.toNat Dv)) (Val.text (x0.getD x5.toNat Dv)) (Val.list (x0.getD x5.toNat Dv)) (Val.columns (x0.getD x5.toNat Dv)) (Val.rows (x0.getD x5.toNat Dv))))))) x5.toNat Dv)) then if(0:Int)<=x5/\x5<(List.length ((fun(z43:List Val)=>z43.set x5.toNat (Val.mk (Val.kind (z43.getD x5.toNat Dv)) (Val.n (z43.getD x5.toNat Dv)) (Val.step (z43.getD x5.toNat Dv)) (Val.text (z43.getD x5.toNat Dv)) r2.2 (Val.columns (z43.getD x5.toNat Dv)) (Val.rows (z43.getD x5.toNat Dv)))) ((fun(z42:List Val)=>z42.set x5.toNat (Val.mk (Val.kind (z42.getD x5.toNat Dv)) (Val.n (z42.getD x5.toNat Dv)) (Val.step (z42.getD x5.toNat Dv)) r1 (Val.list (z42.getD x5.toNat Dv)) (Val.columns (z42.getD x5.toNat Dv)) (Val.rows (z42.getD x5.toNat Dv)))) ((fun(z41:List Val)=>z41.set x5.toNat (Val.mk (Val.kind (z41.getD x5.toNat Dv)) (Val.n (z41.getD x5.toNat Dv)) (i64.wrap ((i64.wrap (x1+1))+1)) (Val.text (z41.getD x5.toNat Dv)) (Val.list (z41.getD x5.toNat Dv)) (Val.columns (z41.getD x5.toNat Dv)) (Val.rows (z41.getD x5.toNat Dv)))) ((fun(z40:List Val)=>z40.set x5.toNat (Val.mk (Val.kind (z40.getD x5.toNat Dv)) (i64.wrap (x1+1)) (Val.step (z40.getD x5.toNat Dv)) (Val.text (z40.getD x5.toNat Dv)) (Val.list (z40.getD x5.toNat Dv)) (Val.columns (z40.getD x5.toNat Dv)) (Val.rows (z40.getD x5.toNat Dv)))) (x0.set x5.toNat (Val.mk x1 (Val.n (x0.getD x5.toNat Dv)) (Val.step (x0.getD x5.toNat Dv)) (Val.text (x0.getD x5.toNat Dv)) (Val.list (x0.getD x5.toNat Dv)) (Val.columns (x0.getD x5.toNat Dv)) (Val.rows (x0.getD x5.toNat Dv))))))))) then
   (HI N (Val.columns (List.getD ((fun(z43:List Val)=>z43.set x5.toNat (Val.mk (Val.kind (z43.getD x5.toNat Dv)) (Val.n (z43.getD x5.toNat Dv)) (Val.step (z43.getD x5.toNat Dv)) (Val.text (z43.getD x5.toNat Dv)) r2.2 (Val.columns (z43.getD x5.toNat Dv)) (Val.rows (z43.getD x5.toNat Dv)))) ((fun(z42:List Val)=>z42.set x5.toNat (Val.mk (Val.kind (z42.getD x5.toNat Dv)) (Val.n (z42.getD x5.toNat Dv)) (Val.step (z42.getD x5.toNat Dv)) r1 (Val.list (z42.getD x5.toNat Dv)) (Val.columns (z42.getD x5.toNat Dv)) (Val.rows (z42.getD x5.toNat Dv)))) ((fun(z41:List Val)=>z41.set x5.toNat (Val.mk (Val.kind (z41.getD x5.toNat Dv)) (Val.n (z41.getD x5.toNat Dv)) (i64.wrap ((i64.wrap (x1+1))+1)) (Val.text (z41.getD x5.toNat Dv)) (Val.list (z41.getD x5.toNat Dv)) (Val.columns (z41.getD x5.toNat Dv)) (Val.rows (z41.getD x5.toNat Dv)))) ((fun(z40:List Val)=>z40.set x5.toNat (Val.mk (Val.kind (z40.getD x5.toNat Dv)) (i64.wrap (x1+1)) (Val.step (z40.getD x5.toNat Dv)) (Val.text (z40.getD x5.toNat Dv)) (Val.list (z40.getD x5.toNat Dv)) (Val.columns (z40.getD x5.toNat Dv)) (Val.rows (z40.getD x5.toNat Dv)))) (x0.set x5.toNat (Val.mk x1 (Val.n (x0.getD x5.toNat Dv)) (Val.step (x0.getD x5.toNat Dv)) (Val.text (x0.getD x5.toNat Dv)) (Val.list (x0.getD x5.toNat Dv)) (Val.columns (x0.getD x5.toNat Dv)) (Val.rows (x0.getD x5.toNat Dv)))))))) x5.toNat Dv)) r2.1).bind fun r3=>
   if r3.2.length=List.length (Val.columns (List.getD ((fun(z43:List Val)=>z43.set x5.toNat (Val.mk (Val.kind (z43.getD x5.toNat Dv)) (Val.n (z43.getD x5.toNat Dv)) (Val.step (z43.getD x5.toNat Dv)) (Val.text (z43.getD x5.toNat Dv)) r2.2 (Val.columns (z43.getD x5.toNat Dv)) (Val.rows (z43.getD x5.toNat Dv)))) ((fun(z42:List Val)=>z42.set x5.toNat (Val.mk (Val.kind (z42.getD x5.toNat Dv)) (Val.n (z42.getD x5.toNat Dv)) (Val.step (z42.getD x5.toNat Dv)) r1 (Val.list (z42.getD x5.toNat Dv)) (Val.columns (z42.getD x5.toNat Dv)) (Val.rows (z42.getD x5.toNat Dv)))) ((fun(z41:List Val)=>z41.set x5.toNat (Val.mk (Val.kind (z41.getD x5.toNat Dv)) (Val.n (z41.getD x5.toNat Dv)) (i64.wrap ((i64.wrap (x1+1))+1)) (Val.text (z41.getD x5.toNat Dv)) (Val.list (z41.getD x5.toNat Dv)) (Val.columns (z41.getD x5.toNat Dv)) (Val.rows (z41.getD x5.toNat Dv)))) ((fun(z40:List Val)=>z40.set x5.toNat (Val.mk (Val.kind (z40.getD x5.toNat Dv)) (i64.wrap (x1+1)) (Val.step (z40.getD x5.toNat Dv)) (Val.text (z40.getD x5.toNat Dv)) (Val.list (z40.getD x5.toNat Dv)) (Val.columns (z40.getD x5.toNat Dv)) (Val.rows (z40.getD x5.toNat Dv)))) (x0.set x5.toNat (Val.mk x1 (Val.n (x0.getD x5.toNat Dv)) (Val.step (x0.getD x5.toNat Dv)) (Val.text (x0.getD x5.toNat Dv)) (Val.list (x0.getD x5.toNat Dv)) (Val.columns (x0.getD x5.toNat Dv)) (Val.rows (x0.getD x5.toNat Dv)))))))) x5.toNat Dv)) then
   if(0:Int)<=x5/\x5<(List.length ((fun(z44:List Val)=>z44.set x5.toNat (Val.mk (Val.kind (z44.getD x5.toNat Dv)) (Val.n (z44.getD x5.toNat Dv)) (Val.step (z44.getD x5.toNat Dv)) (Val.text (z44.getD x5.toNat Dv)) (Val.list (z44.getD x5.toNat Dv)) r3.2 (Val.rows (z44.getD x5.toNat Dv)))) ((fun(z43:List Val)=>z43.set x5.toNat (Val.mk (Val.kind (z43.getD x5.toNat Dv)) (Val.n (z43.getD x5.toNat Dv)) (Val.step (z43.getD x5.toNat Dv)) (Val.text (z43.getD x5.toNat Dv)) r2.2 (Val.columns (z43.getD x5.toNat Dv)) (Val.rows (z43.getD x5.toNat Dv)))) ((fun(z42:List Val)=>z42.set x5.toNat (Val.mk (Val.kind (z42.getD x5.toNat Dv)) (Val.n (z42.getD x5.toNat Dv)) (Val.step (z42.getD x5.toNat Dv)) r1 (Val.list (z42.getD x5.toNat Dv)) (Val.columns (z42.getD x5.toNat Dv)) (Val.rows (z42.getD x5.toNat Dv)))) ((fun(z41:List Val)=>z41.set x5.toNat (Val.mk (Val.kind (z41.getD x5.toNat Dv)) (Val.n (z41.getD x5.toNat Dv)) (i64.wrap ((i64.wrap (x1+1))+1)) (Val.text (z41.getD x5.toNat Dv)) (Val.list (z41.getD x5.toNat Dv)) (Val.columns (z41.getD x5.toNat Dv)) (Val.rows (z41.getD x5.toNat Dv)))) ((fun(z40:List Val)=>z40.set x5.toNat (Val.mk (Val.kind (z40.getD x5.toNat Dv)) (i64.wrap (x1+1)) (Val.step (z40.getD x5.toNat Dv)) (Val.text (z40.getD x5.toNat Dv)) (Val.list (z40.getD x5.toNat Dv)) (Val.columns (z40.getD x5.toNat Dv)) (Val.rows (z40.getD x5.toNat Dv)))) (x0.set x5.toNat (Val.mk x1 (Val.n (x0.getD x5.toNat Dv)) (Val.step (x0.getD x5.toNat Dv)) (Val.text (x0.getD x5.toNat Dv)) (Val.list (x0.getD x5.toNat Dv)) (Val.columns (x0.getD x5.toNat Dv)) (Val.rows (x0.getD x5.toNat Dv)))))))))) then
   (HH N (Val.rows (List.getD ((fun(z44:List Val)=>z44.set x5.toNat (Val.mk (Val.kind (z44.getD x5.toNat Dv)) (Val.n (z44.getD x5.toNat Dv)) (Val.step (z44.getD x5.toNat Dv)) (Val.text (z44.getD x5.toNat Dv)) (Val.list (z44.getD x5.toNat Dv)) r3.2 (Val.rows (z44.getD x5.toNat Dv)))) ((fun(z43:List Val)=>z43.set x5.toNat (Val.mk (Val.kind (z43.getD x5.toNat Dv)) (Val.n (z43.getD x5.toNat Dv)) (Val.step (z43.getD x5.toNat Dv)) (Val.text (z43.getD x5.toNat Dv)) r2.2 (Val.columns (z43.getD x5.toNat Dv)) (Val.rows (z43.getD x5.toNat Dv)))) ((fun(z42:List Val)=>z42.set x5.toNat (Val.mk (Val.kind (z42.getD x5.toNat Dv)) (Val.n (z42.getD x5.toNat Dv)) (Val.step (z42.getD x5.toNat Dv)) r1 (Val.list (z42.getD x5.toNat Dv)) (Val.columns (z42.getD x5.toNat Dv)) (Val.rows (z42.getD x5.toNat Dv)))) ((fun(z41:List Val)=>z41.set x5.toNat (Val.mk (Val.kind (z41.getD x5.toNat Dv)) (Val.n (z41.getD x5.toNat Dv)) (i64.wrap ((i64.wrap (x1+1))+1)) (Val.text (z41.getD x5.toNat Dv)) (Val.list (z41.getD x5.toNat Dv)) (Val.columns (z41.getD x5.toNat Dv)) (Val.rows (z41.getD x5.toNat Dv)))) ((fun(z40:List Val)=>z40.set x5.toNat (Val.mk (Val.kind (z40.getD x5.toNat Dv)) (i64.wrap (x1+1)) (Val.step (z40.getD x5.toNat Dv)) (Val.text (z40.getD x5.toNat Dv)) (Val.list (z40.getD x5.toNat Dv)) (Val.columns (z40.getD x5.toNat Dv)) (Val.rows (z40.getD x5.toNat Dv)))) (x0.set x5.toNat (Val.mk x1 (Val.n (x0.getD x5.toNat Dv)) (Val.step (x0.getD x5.toNat Dv)) (Val.text (x0.getD x5.toNat Dv)) (Val.list (x0.getD x5.toNat Dv)) (Val.columns (x0.getD x5.toNat Dv)) (Val.rows (x0.getD x5.toNat Dv))))))))) x5.toNat Dv)) r3.1).bind fun r4=>
   if r4.2.length=List.length (Val.rows (List.getD ((fun(z44:List Val)=>z44.set x5.toNat (Val.mk (Val.kind (z44.getD x5.toNat Dv)) (Val.n (z44.getD x5.toNat Dv)) (Val.step (z44.getD x5.toNat Dv)) (Val.text (z44.getD x5.toNat Dv)) (Val.list (z44.getD x5.toNat Dv)) r3.2 (Val.rows (z44.getD x5.toNat Dv)))) ((fun(z43:List Val)=>z43.set x5.toNat (Val.mk (Val.kind (z43.getD x5.toNat Dv)) (Val.n (z43.getD x5.toNat Dv)) (Val.step (z43.getD x5.toNat Dv)) (Val.text (z43.getD x5.toNat Dv)) r2.2 (Val.columns (z43.getD x5.toNat Dv)) (Val.rows (z43.getD x5.toNat Dv)))) ((fun(z42:List Val)=>z42.set x5.toNat (Val.mk (Val.kind (z42.getD x5.toNat Dv)) (Val.n (z42.getD x5.toNat Dv)) (Val.step (z42.getD x5.toNat Dv)) r1 (Val.list (z42.getD x5.toNat Dv)) (Val.columns (z42.getD x5.toNat Dv)) (Val.rows (z42.getD x5.toNat Dv)))) ((fun(z41:List Val)=>z41.set x5.toNat (Val.mk (Val.kind (z41.getD x5.toNat Dv)) (Val.n (z41.getD x5.toNat Dv)) (i64.wrap ((i64.wrap (x1+1))+1)) (Val.text (z41.getD x5.toNat Dv)) (Val.list (z41.getD x5.toNat Dv)) (Val.columns (z41.getD x5.toNat Dv)) (Val.rows (z41.getD x5.toNat Dv)))) ((fun(z40:List Val)=>z40.set x5.toNat (Val.mk (Val.kind (z40.getD x5.toNat Dv)) (i64.wrap (x1+1)) (Val.step (z40.getD x5.toNat Dv)) (Val.text (z40.getD x5.toNat Dv)) (Val.list (z40.getD x5.toNat Dv)) (Val.columns (z40.getD x5.toNat Dv)) (Val.rows (z40.getD x5.toNat Dv)))) (x0.set x5.toNat (Val.mk x1 (Val.n (x0.getD x5.toNat Dv)) (Val.step (x0.getD x5.toNat Dv)) (Val.text (x0.getD x5.toNat Dv)) (Val.list (x0.getD x5.toNat Dv)) (Val.columns (x0.getD x5.toNat Dv)) (Val.rows (x0.getD x5.toNat Dv))))))))) x5.toNat Dv)) then
   (EY N q0 n ((fun(z45:List Val)=>z45.set x5.toNat (Val.mk (Val.kind (z45.getD x5.toNat Dv)) (Val.n (z45.getD x5.toNat Dv)) (Val.step (z45.getD x5.toNat Dv)) (Val.text (z45.getD x5.toNat Dv)) (Val.list (z45.getD x5.toNat Dv)) (Val.columns (z45.getD x5.toNat Dv)) r4.2)) ((fun(z44:List Val)=>z44.set x5.toNat (Val.mk (Val.kind (z44.getD x5.toNat Dv)) (Val.n (z44.getD x5.toNat Dv)) (Val.step (z44.getD x5.toNat Dv)) (Val.text (z44.getD x5.toNat Dv)) (Val.list (z44.getD x5.toNat Dv)) r3.2 (Val.rows (z44.getD x5.toNat Dv)))) ((fun(z43:List Val)=>z43.set x5.toNat (Val.mk (Val.kind (z43.getD x5.toNat Dv)) (Val.n (z43.getD x5.toNat Dv)) (Val.step (z43.getD x5.toNat Dv)) (Val.text (z43.getD x5.toNat Dv)) r2.2 (Val.columns (z43.getD x5.toNat Dv)) (Val.rows (z43.getD x5.toNat Dv)))) ((fun(z42:List Val)=>z42.set x5.toNat (Val.mk (Val.kind (z42.getD x5.toNat Dv)) (Val.n (z42.getD x5.toNat Dv)) (Val.step (z42.getD x5.toNat Dv)) r1 (Val.list (z42.getD x5.toNat Dv)) (Val.columns (z42.getD x5.toNat Dv)) (Val.rows (z42.getD x5.toNat Dv)))) ((fun(z41:List Val)=>z41.set x5.toNat (Val.mk (Val.kind (z41.getD x5.toNat Dv)) (Val.n (z41.getD x5.toNat Dv)) (i64.wrap ((i64.wrap (x1+1))+1)) (Val.text (z41.getD x5.toNat Dv)) (Val.list (z41.getD x5.toNat Dv)) (Val.columns (z41.getD x5.toNat Dv)) (Val.rows (z41.getD x5.toNat Dv)))) ((fun(z40:List Val)=>z40.set x5.toNat (Val.mk (Val.kind (z40.getD x5.toNat Dv)) (i64.wrap (x1+1)) (Val.step (z40.getD x5.toNat Dv)) (Val.text (z40.getD x5.toNat Dv)) (Val.list (z40.getD x5.toNat Dv)) (Val.columns (z40.getD x5.toNat Dv)) (Val.rows (z40.getD x5.toNat Dv)))) (x0.set x5.toNat (Val.mk x1 (Val.n (x0.getD x5.toNat Dv)) (Val.step (x0.getD x5.toNat Dv)) (Val.text (x0.getD x5.toNat Dv)) (Val.list (x0.getD x5.toNat Dv)) (Val.columns (x0.getD x5.toNat Dv)) (Val.rows (x0.getD x5.toNat Dv)))))))))) r4.1 (i64.wrap (x5+1)))
   else none else none else none else none else none else none else none else none else none else none) else(some (x1,x0))
def Nj(N:Nat)(q0:(List Val)->Int->Option (Int×(List Val)))(a0:List Val)(a1:Int):Option (Int×(List Val)):=(EY N q0 N a0 a1 0)
def Fa(N:Nat):Nat->(List Val)->Int->Option (Int×(List Val))
 |0,_,_=>none
 |d+1,a0,a1=>Nj N (Fa N d) a0 a1
def EX(N:Nat)(a0:List Val)(a1:Int):Option (Int×(List Val)):=Fa N N a0 a1
def xJP(a0:Val)(a1:Int):List Arg:=[.val (.v true [.int .i64 a0.kind,.int .i64 a0.n,.int .i64 a0.step,.str a0.text,.sl (.lnt 0) .val a0.list,.sl (.lnt 1) .str a0.columns,.sl (.lnt 2) .row a0.rows]),.val (vI a1)]
def xJR(r:Int×(List Val)×(List Str)×(List Rowd)):CallO:=⟨(vI r.1),[],[.sl (.lnt 0) .val r.2.1,.sl (.lnt 1) .str r.2.2.1,.sl (.lnt 2) .row r.2.2.2]⟩
def F9(N:Nat)(a0:Val)(a1:Int):Option (Int×(List Val)×(List Str)×(List Rowd)):=(EX N a0.list a1).bind fun r1=>if r1.2.length=a0.list.length then(HI N a0.columns r1.1).bind fun r2=>if r2.2.length=a0.columns.length then(HH N a0.rows r2.1).bind fun r3=>if r3.2.length=a0.rows.length then some (r3.1,r1.2,r2.2,r3.2) else none else none else none
def xJt(a0:List Str)(a1:Int):List Arg:=[.val (vS .ro .str a0),.val (vI a1)]
def N6(r:Int):CallO:=(cO (vI r))
def DG(N:Nat):Nat->(List Str)->Int->Int->Option (Int)
 |0,_,_,_=>none
 |n+1,x0,x1,x5=>bif(decide (x5<(x0.length:Int))) then(if(0:Int)<=x5/\x5<x0.length then(CR N x1).bind fun r1=>bif(!(((x0.getD x5.toNat Ds):Str)==r1)) then(some (-1)) else((DG N n x0 (i64.wrap (x1+1)) (i64.wrap (x5+1)))) else none) else(some x1)
def F7(N:Nat)(a0:List Str)(a1:Int):Option (Int):=(DG N N a0 a1 0)
def xJo(a0:List Int)(a1:Int):List Arg:=[.val (vS .ro .int a0),.val (vI a1)]
def N1(r:Int):CallO:=(cO (vI r))
def EO(N:Nat):Nat->(List Int)->Int->Int->Option (Int)
 |0,_,_,_=>none
 |n+1,x0,x1,x5=>bif(decide (x5<(x0.length:Int))) then(if(0:Int)<=x5/\x5<x0.length then bif((x0.getD x5.toNat Di) != x1) then(some (-1)) else((EO N n x0 (i64.wrap (x1+1)) (i64.wrap (x5+1)))) else none) else(some x1)
def JM(N:Nat)(a0:List Int)(a1:Int):Option (Int):=(EO N N a0 a1 0)
def xJq(a0:List Org)(a1:Int):List Arg:=[.val (vS .ro .org a0),.val (vI a1)]
def N2(r:Int):CallO:=(cO (vI r))
def EP(N:Nat):Nat->(List Org)->Int->Int->Option (Int)
 |0,_,_,_=>none
 |n+1,x0,x1,x5=>bif(decide (x5<(x0.length:Int))) then(if(0:Int)<=x5/\x5<x0.length then bif(((Org.cell (x0.getD x5.toNat Do)):Int) != x1) then(some (-1)) else(bif(((Org.row (x0.getD x5.toNat Do)):Int) != (i64.wrap (x1+1))) then(some (-1)) else((EP N n x0 (i64.wrap ((i64.wrap (x1+1))+1)) (i64.wrap (x5+1))))) else none) else(some x1)
def JN(N:Nat)(a0:List Org)(a1:Int):Option (Int):=(EP N N a0 a1 0)
def xJs(a0:List Rowd)(a1:Int):List Arg:=[.val (vS .ro .row a0),.val (vI a1)]
def N4(r:Int):CallO:=(cO (vI r))
def DF(N:Nat):Nat->(List Rowd)->Int->Int->Option (Int)
 |0,_,_,_=>none
 |n+1,x0,x1,x5=>bif(decide (x5<(x0.length:Int))) then(if(0:Int)<=x5/\x5<x0.length then(JM N (Rowd.cells (x0.getD x5.toNat Dr)) x1).bind fun r1=>bif(decide (r1<0)) then(some (-1)) else((JN N (Rowd.frm (x0.getD x5.toNat Dr)) r1).bind fun r2=>bif(decide (r2<0)) then(some (-1)) else((DF N n x0 r2 (i64.wrap (x5+1))))) else none) else(some x1)
def F6(N:Nat)(a0:List Rowd)(a1:Int):Option (Int):=(DF N N a0 a1 0)
def JO(a0:List Val)(a1:Int):List Arg:=[.val (vS .ro .val a0),.val (vI a1)]
def HG(r:Int):CallO:=(cO (vI r))
def DH(N:Nat)(q0:(List Val)->Int->Option (Int)):Nat->(List Val)->Int->Int->Option (Int)
 |0,_,_,_=>none
 |n+1,x0,x1,x5=>bif(decide (x5<(x0.length:Int))) then(if(0:Int)<=x5/\x5<x0.length then bif(((Val.kind (x0.getD x5.toNat Dv)):Int) != x1) then(some (-1)) else(bif(((Val.n (x0.getD x5.toNat Dv)):Int) != (i64.wrap (x1+1))) then(some (-1)) else(bif(((Val.step (x0.getD x5.toNat Dv)):Int) != (i64.wrap ((i64.wrap (x1+1))+1))) then(some (-1)) else((CR N (i64.wrap ((i64.wrap ((i64.wrap (x1+1))+1))+1))).bind fun r1=>bif(!(((Val.text (x0.getD x5.toNat Dv)):Str)==r1)) then(some (-1)) else((q0 (Val.list (x0.getD x5.toNat Dv)) (i64.wrap ((i64.wrap ((i64.wrap ((i64.wrap (x1+1))+1))+1))+1))).bind fun r2=>bif(decide (r2<0)) then(some (-1)) else((F7 N (Val.columns (x0.getD x5.toNat Dv)) r2).bind fun r3=>bif(decide (r3<0)) then(some (-1)) else((F6 N (Val.rows (x0.getD x5.toNat Dv)) r3).bind fun r4=>bif(decide (r4<0)) then(some (-1)) else((DH N q0 n x0 r4 (i64.wrap (x5+1)))))))))) else none) else(some x1)
def JP(N:Nat)(q0:(List Val)->Int->Option (Int))(a0:List Val)(a1:Int):Option (Int):=(DH N q0 N a0 a1 0)
def EQ(N:Nat):Nat->(List Val)->Int->Option (Int)
 |0,_,_=>none
 |d+1,a0,a1=>JP N (EQ N d) a0 a1
def HF(N:Nat)(a0:List Val)(a1:Int):Option (Int):=EQ N N a0 a1
def xJw(a0:Val)(a1:Int):List Arg:=[.val (vV .ro a0),.val (vI a1)]
def xJx(r:Int):CallO:=(cO (vI r))
def Aj(N:Nat)(a0:Val)(a1:Int):Option (Int):=(HF N a0.list a1).bind fun r1=>bif(decide (r1<0)) then(some (-1)) else((F7 N a0.columns r1).bind fun r2=>bif(decide (r2<0)) then(some (-1)) else((F6 N a0.rows r2).bind fun r3=>bif(decide (r3<0)) then(some (-1)) else(some r3)))
def xI5(a0:Str)(a1:List Val):List Arg:=[.val (vT a0),.val (vS .ro .val a1)]
def xI6(r:Bool):CallO:=(cO (vB r))
def F5(N:Nat)(a0:Str)(a1:List Val):Option (Bool):=bif(decide ((a0.length:Int)>1048576)) then(some true) else((J5 N a1 1048576).bind fun r1=>bif(decide (r1<0)) then(some true) else((CS N a1).bind fun r2=>(Bm N a0 r2).bind fun r3=>(CS N a1).bind fun r4=>(BA N a0 r4).bind fun r5=>bif r5.2 then(if List.isEmpty r5.1.list=true then if List.isEmpty r5.1.columns=true then if List.isEmpty r5.1.rows=true then(BQ N (Val.mk r5.1.kind r5.1.n r5.1.step r5.1.text [] [] []) r3).bind fun r6=>bif(!r6) then(some false) else((CS N a1).bind fun r7=>(HB N r4 r7).bind fun r8=>bif(!r8) then(some false) else((EX N r4 1).bind fun r9=>if r9.2.length=r4.length then bif(decide (r9.1<0)) then(some false) else((BQ N (Val.mk r5.1.kind r5.1.n r5.1.step r5.1.text [] [] []) r3).bind fun r10=>bif(!r10) then(some false) else((HK N (Val.mk r5.1.kind r5.1.n r5.1.step r5.1.text [] [] []) 1).bind fun r11=>(Aj N (Val.mk r5.1.kind r5.1.n r5.1.step r5.1.text [] [] []) 1).bind fun r12=>bif(decide (r12<0)) then(some false) else(bif(r12 != r11) then(some false) else((CS N a1).bind fun r13=>(BA N a0 r13).bind fun r14=>bif r14.2 then(if List.isEmpty r14.1.list=true then if List.isEmpty r14.1.columns=true then if List.isEmpty r14.1.rows=true then(BQ N (Val.mk r14.1.kind r14.1.n r14.1.step r14.1.text [] [] []) r3).bind fun r15=>bif(!r15) then(some false) else((Aj N (Val.mk r5.1.kind r5.1.n r5.1.step r5.1.text [] [] []) 1).bind fun r16=>
     bif(decide (r16<0)) then(some false) else(bif(r16 != r11) then(some false) else(some true))) else none else none else none) else((BQ N r14.1 r3).bind fun r15=>bif(!r15) then(some false) else((Aj N (Val.mk r5.1.kind r5.1.n r5.1.step r5.1.text [] [] []) 1).bind fun r16=>bif(decide (r16<0)) then(some false) else(bif(r16 != r11) then(some false) else(some true)))))))) else none)) else none else none else none) else((BQ N r5.1 r3).bind fun r6=>bif(!r6) then(some false) else((CS N a1).bind fun r7=>(HB N r4 r7).bind fun r8=>bif(!r8) then(some false) else((EX N r4 1).bind fun r9=>if r9.2.length=r4.length then bif(decide (r9.1<0)) then(some false) else((BQ N r5.1 r3).bind fun r10=>bif(!r10) then(some false) else((F9 N r5.1 1).bind fun r11=>if r11.2.1.length=r5.1.list.length then if r11.2.2.1.length=r5.1.columns.length then if r11.2.2.2.length=r5.1.rows.length then(Aj N (Val.mk r5.1.kind r5.1.n r5.1.step r5.1.text r11.2.1 r11.2.2.1 r11.2.2.2) 1).bind fun r12=>bif(decide (r12<0)) then(some false) else(bif(r12 != r11.1) then(some false) else((CS N a1).bind fun r13=>(BA N a0 r13).bind fun r14=>bif r14.2 then(if List.isEmpty r14.1.list=true then if List.isEmpty r14.1.columns=true then if List.isEmpty r14.1.rows=true then(BQ N (Val.mk r14.1.kind r14.1.n r14.1.step r14.1.text [] [] []) r3).bind fun r15=>bif(!r15) then(some false) else((Aj N (Val.mk r5.1.kind r5.1.n r5.1.step r5.1.text r11.2.1 r11.2.2.1 r11.2.2.2) 1).bind fun r16=>
     bif(decide (r16<0)) then(some false) else(bif(r16 != r11.1) then(some false) else(some true))) else none else none else none) else((BQ N r14.1 r3).bind fun r15=>bif(!r15) then(some false) else((Aj N (Val.mk r5.1.kind r5.1.n r5.1.step r5.1.text r11.2.1 r11.2.2.1 r11.2.2.2) 1).bind fun r16=>bif(decide (r16<0)) then(some false) else(bif(r16 != r11.1) then(some false) else(some true)))))) else none else none else none)) else none)))))
end Go.Ab
end
section
namespace Go.Ab
open Go.Proofs Go.Shelf
variable {P:Program} {ρ:Ren}
theorem xEy(L:Lays.n125 P ρ):∀args w,(callFunc (ρ.f 125) args).run P w= .ok (.enter (ρ.f 125) args) w:=enters_of L.f125 (by kernel_rfl) rfl
end Go.Ab
end
section
namespace Go.Ab
open Go.Lib Go.Extern Go.Proofs Go.Shelf
variable [Inhabited Lb]
def OrgRow(w:World)(br cap:Nat)(xs:List Org):Prop:=
 xs.length<=cap/\∃cs ty lo hi,w.heap[br]? =some (.cells cs ty (lo,hi))/\cap*2=cs.size/\(∀o,lo<=o->o<hi->cap*2<=o)/\
  ∀m (hm:m<xs.length) k (hk:k<2),cs[m*2+k]? =some ((bH xs[m])[k]'hk)
theorem OrgRow.rd{E:Env}{br cap:Nat}{xs:List Org}(h:OrgRow E.w br cap xs){pl:Pl}{c:Nat}(ho:E.ow br=some (.arr pl c []))(hw:E.hw br=xs.length*2)(n:Nat)(hh:E.hdr n= .slice (some ⟨br,0,none⟩) xs.length cap):
 RdP E.w (okF E pl c (.lnt n)) (qF E pl c (.lnt n)) (.slice (some ⟨br,0,none⟩) xs.length cap) (.sl 2 (xs.map Ty.org.toD)):=by
 obtain⟨hcap,cs,ty,lo,hi,t4,t5,t6,hc⟩:=h;refine .sl br 0 xs.length cap 2 _ (fun m k=>if h:m<xs.length/\k<2 then(bH xs[m])[k]'h.2 else .bool false) (by simp) hcap (fun r hr=> ?_) ⟨⟨ho,hw,hcap,cs,ty,lo,hi,t4,t5,t6⟩,fun _=>hh.symm⟩ (fun m k hm hk=> ?_) (fun m k hm hk=> ?_)
 ·obtain⟨y,_,rfl⟩:=Zh.1 hr;exact Ty.toD_length .org y
 ·rw [dif_pos ⟨hm,hk⟩];refine⟨?_,?_,ho⟩
  ·simp only [World.cell?,t4];rw [Zi];exact hc m hm k hk
  ·rw [hw];omega
 ·have hm' :m<xs.length:=by simpa using hm
  have hr:(xs.map Ty.org.toD)[m]=Ty.org.toD xs[m]:=by rw [Z8]
  have hk' :k<2:=by rw [hr] at hk;exact hk
  rw [dif_pos ⟨hm',hk'⟩];simp only [hr]
  match k,hk' with
  |0,_=>exact .int .i64 _
  |1,_=>exact .int .i64 _
theorem OrgRow.of{E:Env}{pl:Pl}{c n br cap:Nat}{xs:List Org}(hx:xs≠ [])(h:RdP E.w (okF E pl c (.lnt n)) (qF E pl c (.lnt n)) (.slice (some ⟨br,0,none⟩) xs.length cap) (.sl 2 (xs.map Ty.org.toD))):OrgRow E.w br cap xs:=by
 obtain⟨b,off,cap',e,hcap,hrl,hq,u,hcl,hk⟩:=RdP.cells h (by simpa using hx);rw [Zq] at e;obtain⟨rfl,rfl,rfl⟩:br=b/\0=off/\cap=cap' :=by injection e with e1 e2 e3;injection e1 with e1;injection e1 with e1 e4;exact⟨e1,e4,e3⟩
 obtain⟨t1,t2,t3,cs,ty,lo,hi',t4,t5,t6⟩:=hq.1;rw [Zq] at hcap;refine⟨hcap,cs,ty,lo,hi',t4,t5,t6,fun m hm k hk2=> ?_⟩;have g1:=(hcl m k (by simpa using hm) hk2).1;have hr:((xs.map Ty.org.toD)[m]'(by simpa using hm))=Ty.org.toD xs[m]:=by rw [Z8]
 have g2:=hk m k (by simpa using hm) (by rw [hr];exact hk2);rw [Zi] at g1;simp only [World.cell?,t4] at g1;simp only [hr] at g2
 match k,hk2,g1,g2 with
 |0,_,g1,g2=>generalize u m 0=x at g1 g2;simp only [Ty.toD,List.getElem_cons_zero] at g2;cases g2;exact g1
 |1,_,g1,g2=>generalize u m 1=x at g1 g2;simp only [Ty.toD,List.getElem_cons_succ,List.getElem_cons_zero] at g2;cases g2;exact g1
structure Sorted (w:World) (bo br cap:Nat) (xs ys:List Org) (w' :World):Prop where
 os:w'.os=w.os
 tape:w'.tape=w.tape
 output:w'.output=w.output
 size:w.heap.size<=w'.heap.size
 old:∀b,b<w.heap.size->b≠bo->b≠br->w'.heap[b]? =w.heap[b]?
 box:∃ty,w'.heap[bo]? =some (.cells #[.slice (some ⟨br,0,none⟩) xs.length cap] ty (0,0))
 row:OrgRow w' br cap ys
theorem xLF{P:Program}{ρ:Ren}(L:LaysGg.n6 P ρ)(t e:TypeId)(i ie:TypeInfo)(hi:P.info? t=some i)(hd:i.desc= .slice e)(hpk:P.packed t=false)(hie:P.info? e=some ie)(ke:Nat)
 (hke:∀w,(Extern.Rtype.kind e).run P w= .ok ke w) (hnp:ie.hasPointers=false) (hby:ie.bytes=16) (f lf:Nat) (hf:P.funcs.findIdx? (·.name== "internal/reflectlite" ++ ".Swapper$9")=some f)
 {xs ys:List Org} (hl:ys.length=xs.length) (h2:2<=xs.length) (hlen:xs.length<4611686018427387904)
 (hpdq:AbsCalls P (ρ.f 14) [.val (.v true [.clo lf [gi 4],.swp f 0 (typeHandle P e) (gi 4)]),.val (.v false [.int .i64 0]),.val (.v false [.int .i64 xs.length]),.val (.v false [.int .i64 (Lib.bitLen xs.length)]),.gbox [.sl (.lnt 0) .org xs]] ⟨.tup [],[[.sl (.lnt 0) .org ys]],[]⟩)
 {w:World} {bo br cap:Nat} {ty:TypeId} (hbo:w.heap[bo]? =some (.cells #[.slice (some ⟨br,0,none⟩) xs.length cap] ty (0,0))) (hbr:OrgRow w br cap xs) (hne:bo≠br)
 (hbase:∀x∈jQ,x.1<w.heap.size/\x.1≠bo/\x.1≠br/\w.heap[x.1]? =some x.2):
 Calls P (ρ.f 6) #[.iface t (.slice (some ⟨br,0,none⟩) xs.length cap),.func (.func lf) #[] #[.pointer (some ⟨bo,0,none⟩)]] w fun en w' =>en= .returned (.tuple #[])/\Sorted w bo br cap xs ys w' :=by
 have hk9:swapperK xs.length ie ke=9:=by
  unfold swapperK;have e0:(xs.length==0)=false:=ZX.2 (by omega);have e1:(xs.length==1)=false:=ZX.2 (by omega);simp [e0,e1,hnp,hby]
 have hbol:bo<w.heap.size:=(Zk.1 hbo).1;have hbrl:br<w.heap.size:=by
  obtain⟨_,cs,ty,lo,hi,h,_⟩:=hbr;exact(Zk.1 h).1
 refine Any.sort_Slice_of_pdq L t e i ie hi hd hpk hie ke hke (some ⟨br,0,none⟩) xs.length cap hlen f (by rw [hk9];exact hf) (.func lf) #[] #[.pointer (some ⟨bo,0,none⟩)] w (Sorted w bo br cap xs ys) ?_;generalize hW:sliceWorld P ρ t (some ⟨br,0,none⟩) xs.length cap w=W;have hWs:W.heap.size=w.heap.size+2:=by rw [<-hW];unfold sliceWorld;rw [gE,gE]
 have hWo:∀b,b<w.heap.size->W.heap[b]? =w.heap[b]? :=by
  intro b hb;rw [<-hW];unfold sliceWorld;have al:∀(w:World) (o:Obj) (b:Nat),b<w.heap.size->(w.alloc o).heap[b]? =w.heap[b]? :=fun w o b hb=>by
   show(w.heap.push o)[b]? =_;rw [ZZ,Zj (by omega)]
  rw [al _ _ _ (by rw [gE];omega),al _ _ _ hb]
 have hWos:W.os=w.os/\W.tape=w.tape/\W.output=w.output:=by rw [<-hW];exact⟨rfl,rfl,rfl⟩
 let E:Env:= { w:=W,hw:=fun b=>if b=br then xs.length*2 else if b=bo then 0 else match w.heap[b]? with |some o=>l9 o|none=>0,
               ow:=fun b=>if b=bo then some (.box (gi 4)) else if b=br then some (.arr (.k (2*gi 4+1)) 0 []) else none,bx:=fun _=>bo,hdr:=fun _=> .slice (some ⟨br,0,none⟩) xs.length cap }
 have o1:E.ow bo=some (.box (gi 4)):=Zx rfl;have o2:E.ow br=some (.arr (.k (2*gi 4+1)) 0 []):=by show(if br=bo then _ else _)=_;rw [Zj (Ne.symm hne),Zx rfl]
 have o3:∀b,b≠bo->b≠br->E.ow b=none:=fun b h1 h2=>by show(if b=bo then _ else _)=_;rw [Zj h1,Zj h2]
 have hw2:E.hw br=xs.length*2:=Zx rfl;have hE:EnvOk E:=by
  refine⟨fun b hb=> ?_,fun b b' l h1 h2=> ?_,fun b s h=> ?_⟩
  ·have hb:W.heap.size<=b:=hb;refine⟨o3 b (by omega) (by omega),?_⟩;show(if b=br then _ else _)=_;rw [Zj (by omega),Zj (by omega),Yt (by omega)]
  ·by_cases c1:b=bo
   ·subst c1;rw [o1] at h1;cases h1;by_cases c2:b' =b
    ·exact c2.symm
    ·by_cases c3:b' =br
     ·subst c3;rw [o2] at h2;cases h2
     ·rw [o3 b' c2 c3] at h2;cases h2
   ·by_cases c2:b=br
    ·subst c2;rw [o2] at h1;cases h1;by_cases c3:b' =bo
     ·subst c3;rw [o1] at h2;cases h2
     ·by_cases c4:b' =b
      ·exact c4.symm
      ·rw [o3 b' c3 c4] at h2;cases h2
    ·rw [o3 b c1 c2] at h1;cases h1
  ·by_cases c1:b=bo
   ·subst c1;show(if b=br then _ else _)=_;rw [Zj hne,Zx rfl]
   ·by_cases c2:b=br
    ·subst c2;rw [o2] at h;cases h
    ·rw [o3 b c1 c2] at h;cases h
 have hB:eX E:=by
  intro x hx;obtain⟨b1,b2,b3,b4⟩:=hbase x hx;refine⟨by show _<W.heap.size;omega,o3 _ b2 b3,(hWo _ b1).trans b4,?_⟩;show(if x.1=br then _ else _)=_;rw [Zj b3,Zj b2,b4]
 have hrow:OrgRow E.w br cap xs:=by
  obtain⟨h1,cs,ty',lo,hi',h3,h4⟩:=hbr;exact⟨h1,cs,ty',lo,hi',(hWo br hbrl).trans h3,h4⟩
 have hsb:sliceBound P e ie ke (some ⟨br,0,none⟩) xs.length cap= #[.slice (some ⟨br,0,none⟩) xs.length cap,typeHandle P e]:=by
  unfold sliceBound;rw [hk9]
  rfl
 rw [hsb]
 have hA:ArgsAt E 0 [.val (.v true [.clo lf [gi 4],.swp f 0 (typeHandle P e) (gi 4)]),.val (.v false [.int .i64 0]),.val (.v false [.int .i64 xs.length]),.val (.v false [.int .i64 (Lib.bitLen xs.length)]),.gbox [.sl (.lnt 0) .org xs]]
  (#[.agg #[.func (.func lf) #[] #[.pointer (some ⟨bo,0,none⟩)],.func (.func f) #[] #[.slice (some ⟨br,0,none⟩) xs.length cap,typeHandle P e]],.int .i64 0,.int .i64 xs.length,.int .i64 (Lib.bitLen xs.length)]:Array Value).toList:=by
  refine⟨⟨_,rfl,⟨rfl,fun _ _=>trivial⟩,⟨⟨rfl,rfl⟩,fun ad l c he h=>rfl⟩,trivial⟩,⟨rfl,trivial⟩,⟨rfl,trivial⟩,⟨rfl,trivial⟩,⟨o1,_,ty,(hWo bo hbol).trans hbo,?_,trivial⟩,trivial⟩;exact OrgRow.rd hrow o2 hw2 0 rfl
 have hdo:=hpdq E _ hE hB hA;have e14:∀args w,(callFunc (ρ.f 14) args).run P w= .ok (.enter (ρ.f 14) args) w:=enters_of L.f14 (by kernel_rfl) rfl;rcases hdo with ⟨v,w',h1,_⟩|⟨_,h1⟩
 ·rw [e14] at h1;cases h1
 refine h1.mono fun en w' hen=> ?_;cases en with
 |returned v=>
  obtain⟨E',rfl,hx⟩:=hen;have hv:v= .tuple #[]:=by
   obtain⟨vs,rfl,hvs⟩:=(hx.res.vr rfl:VR E' aJ (.h 0) (.tup []) v);cases vs with
   |mk l=>cases l with
    |nil=>rfl
    |cons x l=>exact hvs.elim
  subst hv;obtain⟨⟨b1,vals,ty',b2,b3⟩,_⟩:=(hx.outs:bM E' (gi 4) bo [.sl (.lnt 0) .org ys]/\True);have hhdr:E'.hdr 0= .slice (some ⟨br,0,none⟩) xs.length cap:=by rw [hx.hdr]
  cases vals with
  |mk l=>
   match l,b3 with
   | [hv],b3=>
     have b4:RdP E'.w (okF E' (.k (2*gi 4+1)) 0 (.lnt 0)) (qF E' (.k (2*gi 4+1)) 0 (.lnt 0)) hv (.sl 2 (ys.map Ty.org.toD)):=b3.1;have b5:hv=E'.hdr 0:=(RdP.top b4).2 rfl;rw [hhdr] at b5;subst b5;refine⟨rfl,hx.os.trans hWos.1,hx.tape.trans hWos.2.1,hx.output.trans hWos.2.2,by have:=hx.size;show _<=E'.w.heap.size;have h3:W.heap.size<=E'.w.heap.size:=this;omega,fun b hb hb1 hb2=> ?_,⟨ty',b2⟩,?_⟩
     ·exact((hx.old b (by show b<W.heap.size;omega) (o3 b hb1 hb2)).1).trans (hWo b hb)
     ·have:ys≠ []:=by intro e;rw [e] at hl;simp at hl;omega
      rw [<-hl] at b4;exact OrgRow.of this b4
   | [],b3=>exact b3.elim
   |_::_::_,b3=>exact b3.2.elim
 |_=>exact hen.elim
end Go.Ab
end
section
namespace Go.Ab
open Go.Proofs Go.RowKit
structure OrgT (P:Program) (te ti tm tb ts:TypeId):Prop where
 key:P.underlying te=some (.struct #[{ name:= "Cell",type:=ti,offset:=0,embedded:=false,tag:= "",pkgPath:= "",byteOffset:=0 },{ name:= "Row",type:=ti,offset:=1,embedded:=false,tag:= "",pkgPath:= "",byteOffset:=8 }])
 held:P.stoodInHeld te=false
 int:P.underlying ti=some (.int .i64)
 map:P.underlying tm=some (.map te tb)
 zero:∀w,(zeroValue tb).run P w= .ok (.bool false) w
 slice:P.underlying ts=some (.slice te)
def AR(o:Org):Value:= .agg #[.int .i64 o.cell,.int .i64 o.row]
section
variable {P:Program} {te ti tm tb ts:TypeId} (T:OrgT P te ti tm tb ts) {w:World}
include T
theorem OZ:P.plainKey ti=true:=by simp [Program.plainKey,T.int]
theorem OO(o:Org):(part ti #[.int .i64 o.cell,.int .i64 o.row] 0).run P w= .ok (.int .i64 o.cell) w:=run_part_plain w (OZ T) rfl
theorem OP(o:Org):(part ti #[.int .i64 o.cell,.int .i64 o.row] 1).run P w= .ok (.int .i64 o.row) w:=run_part_plain w (OZ T) rfl
theorem xLo(em:Bool)(n:Nat)(k:IntKind)(x:Int):(Instr.checkKey em (n+1) ti (.int k x)).run P w= .ok () w:=by
 unfold Instr.checkKey;simp [run_underlying T.int]
theorem O5(em:Bool)(n:Nat)(o:Org):(Instr.checkKey em (n+2) te (AR o)).run P w= .ok () w:=by
 unfold Instr.checkKey AR;simp [run_underlying T.key,OO T,OP T,xLo T,Result.andThen]
theorem O6(a b:Org):(Op.equal te (AR a) (AR b)).run P w= .ok (a==b) w:=by
 have hf:P.fieldsOf te= #[{ name:= "Cell",type:=ti,offset:=0,embedded:=false,tag:= "",pkgPath:= "",byteOffset:=0 },{ name:= "Row",type:=ti,offset:=1,embedded:=false,tag:= "",pkgPath:= "",byteOffset:=8 }]:=by unfold Program.fieldsOf;rw [T.key]
 show(Op.equalIn 10000 te (.agg _) (.agg _)).run P w=_;rw [run_equalIn_agg w 9999 te _ _ (by rw [hf];exact T.key) T.held,hf];have e1:=run_equalIn_int (P:=P) w 9998 ti .i64 .i64 a.cell b.cell T.int;have e2:=run_equalIn_int (P:=P) w 9998 ti .i64 .i64 a.row b.row T.int;have h:(a==b)=((a.cell==b.cell)&&(a.row==b.row)):=by
  cases a;cases b;rw [YY];simp
 rw [h];simp [Op.eqFields,OO T,OP T,e1,e2,Result.andThen];by_cases h1:a.cell=b.cell <;>by_cases h2:a.row=b.row <;>simp [h1,h2]
end
def SetMap(w:World)(b:Nat)(ks:List Org):Prop:=
 ∃es clock,w.heap[b]? =some (.map es clock)/\es.toList.map (·.key)=ks.map AR/\∀e∈es.toList,e.val= .bool true
theorem SetMap.kept{w w' :World}{b:Nat}{ks:List Org}(h:SetMap w b ks)(e:w'.heap[b]? =w.heap[b]?):SetMap w' b ks:=by
 obtain⟨es,c,h1,h2⟩:=h;exact⟨es,c,e.trans h1,h2⟩
section
variable {P:Program} {te ti tm tb ts:TypeId} (T:OrgT P te ti tm tb ts) {w:World}
include T
theorem xEI(o:Org):∀(es:List MapEntry) (ks:List Org) (i:Nat),es.map (·.key)=ks.map AR->(∀e∈es,e.val= .bool true)->
 ∃r,(Instr.findAsking te (AR o) es i).run P w= .ok r w/\(ks.contains o=true->∃j,r=some (j,.bool true))/\(ks.contains o=false->r=none):=by
 intro es
 induction es with
 |nil=>
  intro ks i h _;have:ks=[]:=by simpa using h.symm
  subst this;exact⟨none,by simp [Instr.findAsking],by simp,fun _=>rfl⟩
 |cons e es ih=>
  intro ks i h hv;cases ks with
  |nil=>simp at h
  |cons k ks=>
   simp only [Zb,Yb] at h;obtain⟨h1,h2⟩:=h;obtain⟨r,hr,p1,p2⟩:=ih ks (i+1) h2 (fun x hx=>hv x (Zr _ hx));by_cases hk:o=k
   ·subst hk;refine⟨some (i,.bool true),?_,fun _=>⟨i,rfl⟩,by simp⟩;unfold Instr.findAsking;simp [h1,O6 T,Result.andThen,hv e Zp]
   ·have hb:(o==k)=false:=by simpa using hk
    refine⟨r,?_,fun hc=>p1 ?_,fun hc=>p2 ?_⟩
    ·unfold Instr.findAsking;simp [h1,O6 T,Result.andThen,hb,hr]
    ·rw [YM,hb,ZJ] at hc;exact hc
    ·rw [YM,hb,ZJ] at hc;exact hc
theorem LP(o:Org)(es:List MapEntry)(ks:List Org)(h:es.map (·.key)=ks.map AR)(hv:∀e∈es,e.val= .bool true):
 ∃r,(Instr.findKey te (AR o) es).run P w= .ok r w/\(ks.contains o=true->∃j,r=some (j,.bool true))/\(ks.contains o=false->r=none):=by
 cases es with
 |nil=>
  have:ks=[]:=by simpa using h.symm
  subst this;exact⟨none,by simp [Instr.findKey,run_underlying T.key,Instr.findNow,Result.andThen],by simp,fun _=>rfl⟩
 |cons e es=>
  cases ks with
  |nil=>simp at h
  |cons k ks=>
   obtain⟨r,hr,p⟩:=xEI T (w:=w) o (e::es) (k::ks) 0 h hv;refine⟨r,?_,p⟩;have:Instr.findNow (.struct #[{ name:= "Cell",type:=ti,offset:=0,embedded:=false,tag:= "",pkgPath:= "",byteOffset:=0 },{ name:= "Row",type:=ti,offset:=1,embedded:=false,tag:= "",pkgPath:= "",byteOffset:=8 }]) (AR o) (e::es) 0=none:=by
    simp [Instr.findNow,Instr.sameNow]
   simp [Instr.findKey,run_underlying T.key,this,Result.andThen,hr]
theorem xLp{b:Nat}{ks:List Org}(h:SetMap w b ks)(o:Org):(Instr.lookup tm (.map (some b)) (AR o) false).run P w= .ok (.bool (ks.contains o)) w:=by
 obtain⟨es,c,h1,h2,h3⟩:=h;obtain⟨r,hr,p1,p2⟩:=LP T (w:=w) o es.toList ks h2 h3;unfold Instr.lookup;have hg:(getObj b).run P w= .ok (.map es c) w:=by simp [getObj,Sem.run,h1]
 have hck:(Instr.checkKey es.isEmpty 10000 te (AR o)).run P w= .ok () w:=O5 T es.isEmpty 9998 o;cases hc:ks.contains o with
 |true=>
  obtain⟨j,rfl⟩:=p1 hc;simp [run_underlying T.map,hg,hck,hr,Result.andThen]
 |false=>
  obtain rfl:=p2 hc;simp [run_underlying T.map,hg,hck,hr,T.zero,Result.andThen]
theorem xLr{b:Nat}{ks:List Org}(h:SetMap w b ks)(o:Org)(hc:ks.contains o=false):
 ∃w',(Instr.mapUpdate tm (.map (some b)) (AR o) (.bool true)).run P w= .ok () w' /\SetMap w' b (ks++ [o])/\w.grownBy w' (some b)/\w'.heap.size=w.heap.size:=by
 obtain⟨es,c,h1,h2,h3⟩:=h;obtain⟨r,hr,p1,p2⟩:=LP T (w:=w) o es.toList ks h2 h3;obtain rfl:=p2 hc;have hb:b<w.heap.size:=(Zk.1 h1).1;have hg:(getObj b).run P w= .ok (.map es c) w:=by simp [getObj,Sem.run,h1]
 have hck:(Instr.checkKey false 10000 te (AR o)).run P w= .ok () w:=O5 T false 9998 o;have hs:∀ob,(setObj b ob).run P w= .ok () { w with heap:=w.heap.setIfInBounds b ob }:=by
  intro ob;simp [setObj,Sem.run,h1]
 refine⟨{ w with heap:=w.heap.setIfInBounds b (.map (es.push { key:=AR o,val:= .bool true,born:=c }) (c+1)) },?_,?_,⟨rfl,rfl,rfl,by simp,fun k hk hne=> ?_⟩,by simp⟩
 ·unfold Instr.mapUpdate;simp [run_underlying T.map,hg,hck,hr,hs,Result.andThen]
 ·refine⟨_,_,by simp [hb];exact⟨rfl,rfl⟩,?_,?_⟩
  ·simp [h2]
  ·intro e he;simp at he;rcases he with he|rfl
   ·exact h3 e (by simpa using he)
   ·rfl
 ·have:b≠k:=fun e=>hne (by rw [e]);simp [YX,this]
end
section
variable {P:Program} {te ti tm tb ts:TypeId} (w:World) {ops:Array Oper} {rest:List Oper} {o:Oper} {a:Act} {Q:Exit->Act->World->Prop}
theorem xAY(T:OrgT P te ti tm tb ts)(hg:o.guard=none)(m x:Operand)(hop:o.op=Op.lookup tm m x false)(b:Nat)(ks:List Org)(hm:a.eval m= .map (some b))(hs:SetMap w b ks)(c:Org)(hx:a.eval x=AR c)(bv:Bool)(hbv:ks.contains c=bv)
 (hK:wpList P ops Q rest (a.put o.dst (.bool bv)) w):wpList P ops Q (o::rest) a w:=by
 refine wpList_plain hg fun K' hK' => ?_;have hrun:=xLp T hs c;rw [hbv] at hrun;unfold Oper.wp;simp [execOp,hop,hm,hx,hrun,Result.andThen];exact hK' _ _ hK
theorem xPh(T:OrgT P te ti tm tb ts)(hg:o.guard=none)(m x v:Operand)(hop:o.op=Op.mapUpdate tm m x v)(b:Nat)(ks:List Org)(hm:a.eval m= .map (some b))(hs:SetMap w b ks)(c:Org)(hx:a.eval x=AR c)(hv:a.eval v= .bool true)
 (hc:ks.contains c=false) (hK:∀w',SetMap w' b (ks++ [c])->w.grownBy w' (some b)->w'.heap.size=w.heap.size->wpList P ops Q rest (a.put o.dst undef) w'):wpList P ops Q (o::rest) a w:=by
 refine wpList_plain hg fun K' hK' => ?_;obtain⟨w',hrun,r1,r2,r3⟩:=xLr T hs c hc;unfold Oper.wp;simp [execOp,hop,hm,hx,hv,hrun,Result.andThen];exact hK' _ _ (hK w' r1 r2 r3)
end
def zU(os:List Org):List Value:=os.flatMap bH
theorem E4:∀os:List Org,(zU os).length=os.length*2
 | []=>rfl
 |o::os=>by
  show(bH o++zU os).length=_;rw [jA,E4 os];simp [bH];omega
theorem xKQ(a b:List Org):zU (a++b)=zU a++zU b:=List.flatMap_append
theorem DM:∀(os:List Org) (m:Nat) (hm:m<os.length) (k:Nat) (hk:k<2),(zU os)[m*2+k]? =some ((bH os[m])[k]'hk)
 | [],m,hm,_,_=>absurd hm (by simp)
 |o::os,0,hm,k,hk=>by
  show(bH o++zU os)[0*2+k]? =_;rw [Xc,Zi,Z9 hk];exact Zw hk
 |o::os,m+1,hm,k,hk=>by
  show(bH o++zU os)[(m+1)*2+k]? =_;rw [Z7 (by show 2<=_;omega)];have e:(m+1)*2+k - (bH o).length=m*2+k:=by show(m+1)*2+k - 2=_;omega
  rw [e];exact DM os m (by simpa using hm) k hk
theorem xKR(os:List Org):∀u∈zU os,u.oneCell' =true:=by
 intro u hu;obtain⟨o,_,hu⟩:=YT.1 hu;simp only [bH,Zl,ZT,or_false] at hu;rcases hu with rfl|rfl <;>rfl
def RowIn(w:World)(v:Value)(os:List Org):Prop:=
 ∃p c,v= .slice p os.length c/\(os=[]\/∃a:Addr,p=some a/\a.block<w.heap.size/\∀j u,(zU os)[j]? =some u->w.cell? (a.add j)=some u)
theorem xLn{P:Program}(w:World)(t ty e:TypeId)(i:TypeInfo)(ht:P.underlying t=some (.slice e))(hi:P.info? e=some i)(b:Option Addr)(n cap c:Nat)(h:n<=cap):
 (Builtin.append_ #[t,t] ty #[.slice b n cap,.slice none 0 c]).run P w= .ok (.slice b n cap) w:=by
 cases b with
 |none=>simp [Builtin.append_,run_underlying ht,sizeOf,typeInfo,hi,Builtin.lenOf,Builtin.firstCells,h,Result.andThen]
 |some ad=>simp [Builtin.append_,run_underlying ht,sizeOf,typeInfo,hi,Builtin.lenOf,Builtin.firstCells,storeCells,h,Result.andThen]
def OwnRow(w:World)(te g cap:Nat)(xs:List Org):Prop:=
 ∃cur,w.heap[g]? =some (.cells cur te (0,0))/\xs.length<=cap/\cap<=maxLen/\cur.size=cap*2/\cur.toList.take (xs.length*2)=zU xs
theorem OwnRow.kept{w w' :World}{te g cap:Nat}{xs:List Org}(h:OwnRow w te g cap xs)(e:w'.heap[g]? =w.heap[g]?):OwnRow w' te g cap xs:=by
 obtain⟨cur,h1,h2⟩:=h;exact⟨cur,e.trans h1,h2⟩
theorem OwnRow.lt{w:World}{te g cap:Nat}{xs:List Org}(h:OwnRow w te g cap xs):g<w.heap.size:=by
 obtain⟨cur,h1,h2⟩:=h;exact(Zk.1 h1).1
theorem OwnRow.cell{w:World}{te g cap:Nat}{xs:List Org}(h:OwnRow w te g cap xs){j:Nat}{u:Value}(hj:(zU xs)[j]? =some u):w.cell? ⟨g,j,none⟩=some u:=by
 obtain⟨cur,h1,h2,h3,h4,h5⟩:=h;simp only [World.cell?,h1];rw [<-h5,YN] at hj;split at hj
 ·simpa using hj
 ·cases hj
theorem OwnRow.org{w:World}{te g cap:Nat}{xs:List Org}(h:OwnRow w te g cap xs):OrgRow w g cap xs:=by
 have hc:=fun j u=>h.cell (j:=j) (u:=u);obtain⟨cur,h1,h2,h3,h4,h5⟩:=h;refine⟨h2,cur,te,0,0,h1,h4.symm,fun o a b=>by omega,fun m hm k hk=> ?_⟩;have:=hc _ _ (DM xs m hm k hk);simpa [World.cell?,h1] using this
theorem xLm{P:Program}{te ti tm tb ts:TypeId}(T:OrgT P te ti tm tb ts)(w:World)(ty:Nat)(i:TypeInfo)(hi:P.info? te=some i){z:Value}(hz:i.zero=some z)(hsize:i.size=2)(hby:i.bytes=16)(hzs:z.cells.size=2)
 {g cap:Nat} {xs:List Org} (hown:OwnRow w te g cap xs) {u:Value} {ys:List Org} (hin:RowIn w u ys) (hlen:xs.length+ys.length<=1000000000000):
 ∃g' cap' w',(Builtin.append_ #[ts,ts] ty #[.slice (some ⟨g,0,none⟩) xs.length cap,u]).run P w= .ok (.slice (some ⟨g',0,none⟩) (xs++ys).length cap') w' /\OwnRow w' te g' cap' (xs++ys)/\w.grownBy w' (some g)/\(g' =g\/g' =w.heap.size):=by
 obtain⟨p,c,rfl,hp⟩:=hin
 have hown0:w.ownsRow 0 te 2 (.slice (some ⟨g,0,none⟩) xs.length cap) xs.length (zU xs):=by
  obtain⟨cur,h1,h2,h3,h4,h5⟩:=hown;exact⟨E4 xs,.inr ⟨g,cap,cur,rfl,Z3 _,h1,h2,h3,h4,h5⟩⟩
 have main:∀ad:Addr,(∀j u,(zU ys)[j]? =some u->w.cell? (ad.add j)=some u)->∃g' cap' w',(Builtin.append_ #[ts,ts] ty #[.slice (some ⟨g,0,none⟩) xs.length cap,.slice (some ad) ys.length c]).run P w= .ok (.slice (some ⟨g',0,none⟩) (xs++ys).length cap') w' /\
  OwnRow w' te g' cap' (xs++ys)/\w.grownBy w' (some g)/\(g' =g\/g' =w.heap.size):=by
  intro ad had;obtain⟨v',w',hr,h2,h3,h4,h5⟩:=run_append_own_at (P:=P) w 0 ts ty te i z 2 16 T.slice hi hz hsize hby hzs (by decide) _ xs.length (zU xs) hown0 ad ys.length c (zU ys) (E4 ys) had (xKR ys) (by unfold maxLen;omega) (by omega) (Z3 _);rcases h2.2 with ⟨rfl,_⟩|⟨g',cap',cur,rfl,_,q1,q2,q3,q4,q5⟩
  ·have:=h4.1 rfl;exact absurd this.1 (by simp)
  ·refine⟨g',cap',w',by rw [hr,jA],⟨cur,q1,by rw [jA];exact q2,q3,q4,by rw [jA,xKQ];exact q5⟩,h3,?_⟩;simpa [Value.ownBlock] using h5
 rcases hp with hnil|⟨ad,rfl,_,had⟩
 ·subst hnil;cases p with
  |some ad=>exact main ad (fun j u h=>by simp [zU] at h)
  |none=>
   have hn:xs.length<=cap:=by obtain⟨cur,h1,h2,_⟩:=hown;exact h2
   refine⟨g,cap,w,?_,by rw [Zd];exact hown,⟨rfl,rfl,rfl,Zg _,fun _ _ _=>rfl⟩,.inl rfl⟩;rw [Zd];exact xLn w ts ty te i T.slice hi (some ⟨g,0,none⟩) xs.length cap c hn
 ·exact main ad had
theorem KY{P:Program}{te ti tm tb ts:TypeId}(w:World){ops:Array Oper}{rest:List Oper}{o:Oper}{a:Act}{Q:Exit->Act->World->Prop}(T:OrgT P te ti tm tb ts)(hg:o.guard=none)(s x:Operand)
 (hop:o.op= .call { callee:= .builtin .append,args:= #[s,x],argTypes:= #[ts,ts] }) (i:TypeInfo) (hi:P.info? te=some i) {z:Value} (hz:i.zero=some z) (hsize:i.size=2) (hby:i.bytes=16) (hzs:z.cells.size=2)
 (g cap:Nat) (xs:List Org) (hs:a.eval s= .slice (some ⟨g,0,none⟩) xs.length cap) (hown:OwnRow w te g cap xs) (u:Value) (hx:a.eval x=u) (ys:List Org) (hin:RowIn w u ys) (hlen:xs.length+ys.length<=1000000000000)
 (hK:∀g' cap' w',OwnRow w' te g' cap' (xs++ys)->w.grownBy w' (some g)->(g' =g\/g' =w.heap.size)->wpList P ops Q rest (a.put o.dst (.slice (some ⟨g',0,none⟩) (xs++ys).length cap')) w'):
 wpList P ops Q (o::rest) a w:=by
 refine wpList_plain hg fun K' hK' => ?_;obtain⟨g',cap',w',hr,h2,h3,h4⟩:=xLm (P:=P) T w o.type i hi hz hsize hby hzs hown hin hlen;unfold Oper.wp execOp;simp only [hop,resolve,invoke,builtin,Sem.run_bind,Sem.run_pure,Result.andThen_ok,List.map_toArray,Zb,ZD,hs,hx,hr];exact hK' _ _ (hK g' cap' w' h2 h3 h4)
theorem RowIn.kept{w w' :World}{v:Value}{os:List Org}(h:RowIn w v os)(hs:w.heap.size<=w'.heap.size)(ho:∀b,b<w.heap.size->w'.heap[b]? =w.heap[b]?):RowIn w' v os:=by
 obtain⟨p,c,rfl,h⟩:=h;refine⟨p,c,rfl,h.imp id ?_⟩;rintro ⟨a,rfl,ha,hc⟩;refine⟨a,rfl,by omega,fun j u hj=> ?_⟩;rw [<-hc j u hj];have e:(a.add j).block=a.block:=by unfold Addr.add;split <;>rfl
 simp only [World.cell?,e,ho _ ha]
theorem zR{w:World}{o:Obj}{b:Nat}(hb:b<w.heap.size):(w.alloc o).heap[b]? =w.heap[b]? :=Below.heap_alloc w o b hb
theorem y9(w:World)(o:Obj):(w.alloc o).heap.size=w.heap.size+1:=YC _
theorem RowIn.below{w w' :World}{v:Value}{os:List Org}(h:RowIn w v os)(hb:Below w.heap.size w w'):RowIn w' v os:=h.kept hb.size hb.block
theorem xLx(w:World)(o1 o2 o3:Obj)(te:TypeId):OwnRow ((((w.alloc o1).alloc o2).alloc o3).alloc (.cells #[] te)) te (w.heap.size+1+1+1) 0 []:=by
 refine⟨#[],?_,Zg _,by decide,rfl,rfl⟩;have e:w.heap.size+1+1+1=(((w.alloc o1).alloc o2).alloc o3).heap.size:=by rw [y9,y9,y9]
 rw [e];show(Array.push _ _)[_]? =_;rw [ZZ,Zx rfl]
theorem I3(w:World)(o1 o2 o3 o4:Obj):Below w.heap.size w ((((w.alloc o1).alloc o2).alloc o3).alloc o4):=
 ((((Below.refl w.heap.size w).alloc (Zg _) o1).alloc (by rw [y9];omega) o2).alloc (by rw [y9,y9];omega) o3).alloc (by rw [y9,y9,y9];omega) o4
theorem LH(os:List Org)(k:Nat)(hk:k<os.length):ded (os.take (k+1))=tF (ded (os.take k)) os[k]:=by
 unfold ded;rw [Yq hk,Ya]
 rfl
theorem Ia(os:List Org):(ded os).length<=os.length:=by
 unfold ded;have:∀(os acc:List Org),(os.foldl tF acc).length<=acc.length+os.length:=by
  intro os
  induction os with
  |nil=>intro acc;simp
  |cons o os ih=>
   intro acc;rw [List.foldl_cons];refine Yu (ih _) ?_;unfold tF;split <;>simp <;>omega
 simpa using this os []
structure URel (w:World) (te ts B S ga ca:Nat) (all:List Org) (k g cap:Nat) (wr:World):Prop where
 set:SetMap wr B (ded (all.take k))
 box:wr.heap[B+1+1]? =some (.cells #[.slice (some ⟨g,0,none⟩) (ded (all.take k)).length cap] ts (0,0))
 row:OwnRow wr te g cap (ded (all.take k))
 all:OwnRow wr te ga ca all
 below:Below B w wr
 size:S<=wr.heap.size
 hg:g=B+1\/S<=g
 hga:B+3<=ga/\ga<S
theorem URel.cell{w wr:World}{te ts B S ga ca k g cap:Nat}{all:List Org}(h:URel w te ts B S ga ca all k g cap wr):wr.cell? ⟨B+1+1,0,none⟩=some (.slice (some ⟨g,0,none⟩) (ded (all.take k)).length cap):=by
 simp [World.cell?,h.box]
theorem URel.old{w wr:World}{te ts B S ga ca k g cap:Nat}{all:List Org}(h:URel w te ts B S ga ca all k g cap wr)(hk:k<all.length)(hc:(ded (all.take k)).contains all[k]=true)(o:Obj):URel w te ts B S ga ca all (k+1) g cap (wr.alloc o):=by
 have hsz:=h.size;have hal:∀b,b<wr.heap.size->(wr.alloc o).heap[b]? =wr.heap[b]? :=fun b hb=>zR (by omega);have e:ded (all.take (k+1))=ded (all.take k):=by rw [LH _ _ hk];unfold tF;rw [Zx hc]
 have h1:=h.hga;refine⟨by rw [e];exact h.set.kept (hal _ (by omega)),by rw [e,hal _ (by omega)];exact h.box,by rw [e];exact h.row.kept (hal _ h.row.lt),h.all.kept (hal _ h.all.lt),h.below.alloc (by omega) _,by rw [y9];omega,h.hg,h1⟩
theorem xLy{w:World}{b:Nat}{v0 v:Value}{ty:TypeId}(h:w.heap[b]? =some (.cells #[v0] ty (0,0))):(w.setCell ⟨b,0,none⟩ v).heap[b]? =some (.cells #[v] ty (0,0))/\∀k,k≠b->(w.setCell ⟨b,0,none⟩ v).heap[k]? =w.heap[k]? :=by
 refine⟨?_,fun k hk=>Below.heap_setCell w _ v k hk⟩;have hb:b<w.heap.size:=(Zk.1 h).1;simp [World.setCell,Yr,h]
theorem URel.new{w wr w2 w4:World}{te ts B S ga ca k g cap g' cap' :Nat}{all:List Org}(h:URel w te ts B S ga ca all k g cap wr)(hk:k<all.length)(hc:(ded (all.take k)).contains all[k]=false){o1 o3:Obj}
 (s2:SetMap w2 B (ded (all.take k)++ [all[k]])) (g2:(wr.alloc o1).grownBy w2 (some B)) (z2:w2.heap.size=(wr.alloc o1).heap.size)
 (r4:OwnRow w4 te g' cap' (ded (all.take k)++ [all[k]])) (g4:(w2.alloc o3).grownBy w4 (some g)) (hg' :g' =g\/g' =(w2.alloc o3).heap.size):
 URel w te ts B S ga ca all (k+1) g' cap' (w4.setCell ⟨B+1+1,0,none⟩ (.slice (some ⟨g',0,none⟩) (ded (all.take k)++ [all[k]]).length cap')):=by
 have hsz:=h.size;have e:ded (all.take (k+1))=ded (all.take k)++ [all[k]]:=by rw [LH _ _ hk];unfold tF;rw [Zj (by rw [hc];simp)]
 have h1:=h.hga;have h2:=h.hg;have hgl:=h.row.lt;have zs1:(wr.alloc o1).heap.size=wr.heap.size+1:=y9 _ _;have zs3:(w2.alloc o3).heap.size=w2.heap.size+1:=y9 _ _;have z4:=g4.size;have q1:∀b,b<wr.heap.size->b≠B->w2.heap[b]? =wr.heap[b]? :=fun b hb hne=>(g2.block b (by omega) (by simp;omega)).trans (zR (by omega));have q4:∀b,b<wr.heap.size->b≠B->b≠g->w4.heap[b]? =wr.heap[b]? :=fun b hb hne hne2=>((g4.block b (by omega) (by simp;omega)).trans (zR (by omega))).trans (q1 b hb hne);have hbx:w4.heap[B+1+1]? =some (.cells #[.slice (some ⟨g,0,none⟩) (ded (all.take k)).length cap] ts (0,0)):=(q4 _ (by omega) (by omega) (by omega)).trans h.box;obtain⟨b1,b2⟩:=xLy (v:= .slice (some ⟨g',0,none⟩) (ded (all.take k)++ [all[k]]).length cap') hbx;refine⟨?_,?_,?_,?_,?_,?_,?_,h1⟩
 ·rw [e];exact s2.kept ((b2 _ (by omega)).trans ((g4.block B (by omega) (by simp;omega)).trans (zR (by omega))))
 ·rw [e];exact b1
 ·rw [e];exact r4.kept (b2 _ (by omega))
 ·exact h.all.kept ((b2 _ (by omega)).trans (q4 _ h.all.lt (by omega) (by omega)))
 ·refine Below.setCell ?_ (by show B<=B+1+1;omega) _;refine Below.grown ?_ g4 (by omega) (fun k hk=>by cases hk;omega);refine Below.alloc ?_ (by omega) _;refine Below.grown ?_ g2 (by omega) (fun k hk=>by cases hk;omega);exact h.below.alloc (by omega) _
 ·have:(w4.setCell ⟨B+1+1,0,none⟩ (.slice (some ⟨g',0,none⟩) (ded (all.take k)++ [all[k]]).length cap')).heap.size=w4.heap.size:=by simp [World.setCell]
  omega
 ·omega
theorem URel.start{w w1 w2:World}{te ts g1 g2 c2:Nat}{xs ys:List Org}(r2:OwnRow w2 te g2 c2 ([]++xs++ys))
 (gr1:((((w.alloc (.map #[] 0)).alloc (.cells #[] te)).alloc (.cells #[.slice (some { block:=w.heap.size+1,off:=0 }) 0 0] ts)).alloc (.cells #[] te)).grownBy w1 (some (w.heap.size+1+1+1)))
 (e1:g1=w.heap.size+1+1+1\/g1=((((w.alloc (.map #[] 0)).alloc (.cells #[] te)).alloc (.cells #[.slice (some { block:=w.heap.size+1,off:=0 }) 0 0] ts)).alloc (.cells #[] te)).heap.size)
 (gr2:w1.grownBy w2 (some g1)) (e2:g2=g1\/g2=w1.heap.size):URel w te ts w.heap.size w2.heap.size g2 c2 (xs++ys) 0 (w.heap.size+1) 0 w2:=by
 generalize hA:((w.alloc (.map #[] 0)).alloc (.cells #[] te)).alloc (.cells #[.slice (some { block:=w.heap.size+1,off:=0 }) 0 0] ts)=A at gr1 e1;have za:A.heap.size=w.heap.size+3:=by rw [<-hA,y9,y9,y9]
 have z4:(A.alloc (.cells #[] te)).heap.size=w.heap.size+4:=by rw [y9,za]
 have s1:=gr1.size;have s2:=gr2.size;have a0:A.heap[w.heap.size]? =some (.map #[] 0):=by
  rw [<-hA,zR (by rw [y9,y9];omega),zR (by rw [y9];omega)];show(Array.push _ _)[_]? =_;rw [ZZ,Zx rfl]
 have a1:A.heap[w.heap.size+1]? =some (.cells #[] te):=by
  rw [<-hA,zR (by rw [y9,y9];omega)];show(Array.push _ _)[_]? =_;rw [ZZ,Zx (y9 _ _).symm]
 have a2:A.heap[w.heap.size+1+1]? =some (.cells #[.slice (some { block:=w.heap.size+1,off:=0 }) 0 0] ts):=by
  rw [<-hA];show(Array.push _ _)[_]? =_;rw [ZZ,Zx (by rw [y9,y9])]
 have keep:∀b,b<w.heap.size+3->w2.heap[b]? =A.heap[b]? :=fun b hb=>
  (gr2.block b (by omega) (by simp;omega)).trans ((gr1.block b (by omega) (by simp;omega)).trans (zR (by omega)))
 have hd:ded ((xs++ys).take 0)=[]:=by simp [ded]
 refine⟨?_,?_,?_,by simpa using r2,?_,Zg _,.inl rfl,by omega,?_⟩
 ·rw [hd];exact⟨#[],0,(keep _ (by omega)).trans a0,rfl,by simp⟩
 ·rw [hd];exact(keep _ (by omega)).trans a2
 ·rw [hd];exact⟨#[],(keep _ (by omega)).trans a1,Zg _,by decide,rfl,rfl⟩
 ·refine Below.grown (Below.grown ?_ gr1 (by omega) (fun k hk=>by cases hk;omega)) gr2 (by omega) (fun k hk=>by cases hk;omega);rw [<-hA];exact I3 w _ _ _ _
 ·exact r2.lt
theorem URel.mid{w wr w3:World}{te ts B S ga ca k g cap:Nat}{all:List Org}(h:URel w te ts B S ga ca all k g cap wr){a b:Value}(g3:(wr.alloc (.cells #[a,b] te)).grownBy w3 (some B))(z3:w3.heap.size=(wr.alloc (.cells #[a,b] te)).heap.size):
 w3.cell? ⟨B+1+1,0,none⟩=some (.slice (some ⟨g,0,none⟩) (ded (all.take k)).length cap)/\w3.cell? ⟨wr.heap.size,0,none⟩=some a/\w3.cell? ⟨wr.heap.size,1,none⟩=some b/\∀o,OwnRow (w3.alloc o) te g cap (ded (all.take k)):=by
 have hsz:=h.size;have h1:=h.hga;have h2:=h.hg;have hgl:=h.row.lt;have zs1:=y9 wr (.cells #[a,b] te);have q1:∀b,b<wr.heap.size->b≠B->w3.heap[b]? =wr.heap[b]? :=fun b hb hne=>(g3.block b (by omega) (by simp;omega)).trans (zR (by omega));have qn:w3.heap[wr.heap.size]? =some (.cells #[a,b] te):=by
  rw [g3.block _ (by omega) (by simp;omega)];show(Array.push _ _)[_]? =_;rw [ZZ,Zx rfl]
 refine⟨?_,by simp [World.cell?,qn],by simp [World.cell?,qn],fun o=> ?_⟩
 ·simp only [World.cell?,q1 (B+1+1) (by omega) (by omega),h.box]
  rfl
 ·exact h.row.kept ((zR (by omega)).trans (q1 g hgl (by omega)))
theorem xLh(w:World)(te:Nat)(c:Org):RowIn (w.alloc (.cells #[.int .i64 c.cell,.int .i64 c.row] te)) (.slice (some ⟨w.heap.size,0,none⟩) 1 1) [c]:=by
 refine⟨_,1,rfl,.inr ⟨_,rfl,by rw [y9];exact Nat.lt_succ_self _,fun j u hj=> ?_⟩⟩;have hq:∀i,(w.alloc (.cells #[.int .i64 c.cell,.int .i64 c.row] te)).cell? ⟨w.heap.size,i,none⟩=(#[.int .i64 c.cell,.int .i64 c.row]:Array Value)[i]? :=fun i=>by
  have hq:(w.alloc (.cells #[.int .i64 c.cell,.int .i64 c.row] te)).heap[w.heap.size]? =some (.cells #[.int .i64 c.cell,.int .i64 c.row] te):=by
   show(Array.push _ _)[_]? =_;rw [ZZ,Zx rfl]
  simp only [World.cell?,hq]
  rfl
 match j,hj with
 |0,hj=>
  simp [zU,bH] at hj;subst hj;simp only [Addr.add];exact hq _
 |1,hj=>
  simp [zU,bH] at hj;subst hj;simp only [Addr.add];exact hq _
 |j+2,hj=>simp [zU,bH] at hj
theorem URel.mid4{w wr w3 w4:World}{te ts B S ga ca k g cap:Nat}{all:List Org}(h:URel w te ts B S ga ca all k g cap wr){o1 o3:Obj}(g3:(wr.alloc o1).grownBy w3 (some B))(z3:w3.heap.size=(wr.alloc o1).heap.size)
 (g4:(w3.alloc o3).grownBy w4 (some g)):
 w4.cell? ⟨B+1+1,0,none⟩=some (.slice (some ⟨g,0,none⟩) (ded (all.take k)).length cap)/\w4.frozen? ⟨B+1+1,0,none⟩=false:=by
 have hsz:=h.size;have h1:=h.hga;have h2:=h.hg;have hgl:=h.row.lt;have zs1:=y9 wr o1;have zs3:=y9 w3 o3
 have q:w4.heap[B+1+1]? =wr.heap[B+1+1]? :=
  (g4.block _ (by omega) (by simp;omega)).trans ((zR (by omega)).trans ((g3.block _ (by omega) (by simp;omega)).trans (zR (by omega))))
 constructor
 ·simp only [World.cell?,q,h.box]
  rfl
 ·simp [World.frozen?,q,h.box]
end Go.Ab
end
section
namespace Go.Ab
open Go.Lib Go.Extern Go.Proofs Go.Shelf Go.RowKit
variable [Inhabited Lb]
theorem xLE{P:Program}{ρ:Ren}(L:LaysGg.n6 P ρ)(t e:TypeId)(i ie:TypeInfo)(hi:P.info? t=some i)(hd:i.desc= .slice e)(hpk:P.packed t=false)(hie:P.info? e=some ie)(ke:Nat)
 (hke:∀w,(Extern.Rtype.kind e).run P w= .ok ke w) (hnp:ie.hasPointers=false) (hby:ie.bytes=16) (f1 f2 f lf:Nat) (hf1:P.funcs.findIdx? (·.name== "internal/reflectlite" ++ ".Swapper$1")=some f1)
 (hf2:P.funcs.findIdx? (·.name== "internal/reflectlite" ++ ".Swapper$2")=some f2) (hf:P.funcs.findIdx? (·.name== "internal/reflectlite" ++ ".Swapper$9")=some f)
 (hpdq:∀xs:List Org,2<=xs.length->xs.length<=1000000000000->AbsCalls P (ρ.f 14) [.val (.v true [.clo lf [gi 4],.swp f 0 (typeHandle P e) (gi 4)]),.val (.v false [.int .i64 0]),.val (.v false [.int .i64 xs.length]),.val (.v false [.int .i64 (Lib.bitLen xs.length)]),.gbox [.sl (.lnt 0) .org xs]]
   ⟨.tup [],[[.sl (.lnt 0) .org (xs.mergeSort fun x y=> !olt y x)]],[]⟩)
 {w:World} {bo br cap:Nat} {ty:TypeId} {xs:List Org} (hlen:xs.length<=1000000000000) (hbo:w.heap[bo]? =some (.cells #[.slice (some ⟨br,0,none⟩) xs.length cap] ty (0,0))) (hbr:OrgRow w br cap xs) (hne:bo≠br)
 (hbase:∀x∈jQ,x.1<w.heap.size/\x.1≠bo/\x.1≠br/\w.heap[x.1]? =some x.2):
 Calls P (ρ.f 6) #[.iface t (.slice (some ⟨br,0,none⟩) xs.length cap),.func (.func lf) #[] #[.pointer (some ⟨bo,0,none⟩)]] w fun en w' =>en= .returned (.tuple #[])/\Sorted w bo br cap xs (xs.mergeSort fun x y=> !olt y x) w' :=by
 by_cases h2:2<=xs.length
 ·exact xLF L t e i ie hi hd hpk hie ke hke hnp hby f lf hf (by simp) h2 (by omega) (hpdq xs h2 hlen) hbo hbr hne hbase
 ·have hn:xs.length<=1:=by omega
  have hms:(xs.mergeSort fun x y=> !olt y x)=xs:=by
   match xs,hn with
   | [],_=>simp
   | [a],_=>simp
  rw [hms];have hfi:∃f0,P.funcs.findIdx? (·.name== "internal/reflectlite" ++ ".Swapper$" ++toString (swapperK xs.length ie ke))=some f0:=by
   match h:xs.length,hn with
   |0,_=>exact⟨f1,by rw [show swapperK 0 ie ke=1 from rfl];exact hf1⟩
   |1,_=>exact⟨f2,by rw [show swapperK 1 ie ke=2 from rfl];exact hf2⟩
  obtain⟨f0,hf0⟩:=hfi;refine(Any.sort_Slice_tiny L t e i ie hi hd hpk hie ke hke (some ⟨br,0,none⟩) xs.length cap hn f0 hf0 (.func lf) #[] #[.pointer (some ⟨bo,0,none⟩)] w).mono ?_;rintro en w' ⟨rfl,os,rfl⟩;have hbol:bo<w.heap.size:=(Zk.1 hbo).1;have hbrl:br<w.heap.size:=by
   obtain⟨_,cs,ty,lo,hi,h,_⟩:=hbr;exact(Zk.1 h).1
  refine⟨rfl,rfl,rfl,rfl,by rw [Sort.size_grow];omega,fun b hb _ _=>Sort.heap_grow_old _ _ hb,⟨ty,(Sort.heap_grow_old _ _ hbol).trans hbo⟩,?_⟩;obtain⟨h1,cs,ty',lo,hi',h3,h4⟩:=hbr;exact⟨h1,cs,ty',lo,hi',(Sort.heap_grow_old _ _ hbrl).trans h3,h4⟩
theorem LD{w:World}{ok:List (Nat×Nat)->Nat->Nat->Prop}{q:List (Nat×Nat)->Value->Nat->Prop}{x:Org}{y:Value}:∀ {k:Nat} {hk:k<(Ty.org.toD x).length},RdP w ok q y ((Ty.org.toD x)[k])->y=(bH x)[k]'hk
 |0,_,h=>by simp only [Ty.toD,List.getElem_cons_zero] at h;cases h;rfl
 |1,_,h=>by simp only [Ty.toD,List.getElem_cons_succ,List.getElem_cons_zero] at h;cases h;rfl
 |k+2,hk,_=>absurd hk (by show ¬k+2<2;omega)
theorem O3{E:Env}{pl:Pl}{c:Nat}{v:Value}{os:List Org}(h:RdP E.w (okF E pl c .ro) (qF E pl c .ro) v (.sl 2 (os.map Ty.org.toD))):RowIn E.w v os:=by
 by_cases hx:os=[]
 ·subst hx;obtain⟨ad,cap,rfl,_⟩:=RdP.shape h;exact⟨ad,cap,rfl,.inl rfl⟩
 ·obtain⟨b,off,cap,rfl,hcap,hrl,hq,u,hcl,hk⟩:=RdP.cells h (by simpa using hx);refine⟨some ⟨b,off,none⟩,cap,by rw [Zq],.inr ⟨_,rfl,?_,fun j x hj=> ?_⟩⟩
  ·have hpos:0<(os.map Ty.org.toD).length:=by
    cases os with
    |nil=>exact absurd rfl hx
    |cons _ _=>simp
   have h0:=(hcl 0 0 hpos (by decide)).1;by_cases hlt:b<E.w.heap.size
   ·exact hlt
   ·simp [World.cell?,Yt (X2 hlt)] at h0
  ·have hj2:j<(zU os).length:=(Zv.1 hj).1;rw [E4] at hj2;have e:j=j / 2*2+j % 2:=by omega
   have hm:j / 2<os.length:=by omega
   have hk2:j % 2<2:=Xn _ (by decide);have h1:=DM os (j / 2) hm (j % 2) hk2;rw [<-e,hj] at h1;cases h1;have g1:=(hcl (j / 2) (j % 2) (by simpa using hm) hk2).1;have hr:((os.map Ty.org.toD)[j / 2]'(by simpa using hm))=Ty.org.toD os[j / 2]:=by rw [Z8]
   have g2:=hk (j / 2) (j % 2) (by simpa using hm) (by rw [hr];exact hk2);have ha:(⟨b,off,none⟩:Addr).add j=⟨b,off+(j / 2)*2+j % 2,none⟩:=by
    rw [show off+j / 2*2+j % 2=off+j by omega];unfold Addr.add;split
    ·rename_i h0;rw [h0];rfl
    ·rfl
   rw [ha,g1];simp only [hr] at g2;exact Zc some (LD g2)
theorem xKx{P:Program}{f:FuncId}(hf:∀args w,(callFunc f args).run P w= .ok (.enter f args) w)
 (hc:∀(xs ys:List Org) (u v:Value) (w:World),RowIn w u xs->RowIn w v ys->xs.length+ys.length<=1000000000000->(∀x∈jQ,x.1<w.heap.size/\w.heap[x.1]? =some x.2)->
   Calls P f #[u,v] w fun e w' =>∃br cap,e= .returned (.slice (some ⟨br,0,none⟩) (qV xs ys).length cap)/\Below w.heap.size w w' /\w.heap.size<=br/\OrgRow w' br cap (qV xs ys))
 {xs ys zs:List Org} (h:zAt xs ys=some zs):AbsCalls P f [.val (.v false [.sl .ro .org xs]),.val (.v false [.sl .ro .org ys])] ⟨.v false [.sl .own .org zs],[],[]⟩:=by
 unfold zAt at h;split at h
 case isFalse=>cases h
 rename_i hlen;cases h;refine AbsCalls.of_enter hf fun E args hE hB hA=> ?_
 match args,hA with
 |⟨[v1,v2]⟩,hA=>
  obtain⟨⟨hv1,_⟩,⟨hv2,_⟩,_⟩:=hA;refine(hc xs ys v1 v2 E.w (O3 hv1) (O3 hv2) hlen fun x hx=>⟨(hB x hx).1,(hB x hx).2.2.1⟩).mono ?_;rintro e w' ⟨br,cap,rfl,hb,hbr,hrow⟩;generalize qV xs ys=zs at hrow;have hbl:br<w'.heap.size:=by
   obtain⟨_,cs,ty,lo,hi,h,_⟩:=hrow;exact(Zk.1 h).1
  have h0:=hE.new br hbr
  let E' :Env:= { w:=w',hw:=fun b=>if b=br then zs.length*2 else E.hw b,ow:=fun b=>if b=br then some (.arr (.h 0) 0 []) else(E.ow b).bind (fun l=>if l= .arr (.h 0) 0 [] then none else some l),bx:=E.bx,hdr:=fun _=> .slice (some ⟨br,0,none⟩) zs.length cap }
  have hrd:=OrgRow.rd (E:=E') (pl:= .h 0) (c:=0) hrow (Zx rfl) (Zx rfl) 0 rfl;refine⟨_,{ E' with hdr:=E.hdr },rfl,rfl,?_⟩;refine { os:=hb.os,tape:=hb.tape,output:=hb.output,size:=hb.size,hdr:=rfl,old:=fun b hlt h1=> ?_,env:=⟨fun b hbb=> ?_,fun b b' l g1 g2=> ?_,fun b s h=> ?_⟩,res:= ?_,outs:=trivial,lents:=trivial,bx:=fun _ _=>rfl }
  ·have e:b≠br:=by omega
   exact⟨hb.block b hlt,by simp [E',e],by simp [E',e,h1]⟩
  ·have hbb:w'.heap.size<=b:=hbb;have e:b≠br:=by omega
   have:=hE.new b (by have:=hb.size;omega);exact⟨by simp [E',e,this.1],by simp [E',e,this.2]⟩
  ·simp only [E'] at g1 g2;split at g1 <;>split at g2
   ·rename_i e1 e2;rw [e1,e2]
   ·cases g1;simp only [Zn] at g2;obtain⟨l2,_,c2⟩:=g2;split at c2
    ·cases c2
    ·rename_i hne;cases c2;exact absurd rfl hne
   ·cases g2;simp only [Zn] at g1;obtain⟨l2,_,c2⟩:=g1;split at c2
    ·cases c2
    ·rename_i hne;cases c2;exact absurd rfl hne
   ·simp only [Zn] at g1 g2;obtain⟨l1,a1,c1⟩:=g1;obtain⟨l2,a2,c2⟩:=g2;split at c1
    ·cases c1
    ·split at c2
     ·cases c2
     ·cases c1;cases c2;exact hE.inj _ _ _ a1 a2
  ·simp only [E'] at h ⊢;split at h
   ·cases h
   ·rename_i hne;rw [Zj hne];rw [Zn] at h;obtain⟨l,a1,c1⟩:=h;split at c1
    ·cases c1
    ·cases c1;exact hE.boxhw b s a1
  ·refine ResAt.of ?_ rfl;refine⟨?_,trivial⟩;exact RdP.mono hrd (fun p b o ho=>⟨rfl,ho⟩) (fun p v sz ht=>ht.1)
 |⟨[]⟩,hA=>exact hA.elim
 |⟨[_]⟩,hA=>exact hA.2.elim
 |⟨_::_::_::_⟩,hA=>exact hA.2.2.elim
end Go.Ab
end
section
namespace Go.Ab
end Go.Ab
namespace Go.Ab
variable [Inhabited Lb]
open Go.Proofs Go.Shelf Go.RowKit Go.Lib
variable {P:Program} {ρ:Ren}
theorem xIP(s:List UInt8)(c:UInt8):Lib.index s [c]=Lib.indexByte s c:=by
 induction s with
 |nil=>rfl
 |cons b l ih=>
  unfold Lib.index Lib.indexByte;rw [ih];by_cases h:b=c
  ·subst h;simp [List.isPrefixOf]
  ·have h2:¬c=b:=fun e=>h e.symm;simp [List.isPrefixOf,h,h2]
set_option maxHeartbeats 1000000 in
theorem xOs(L:Lays.n146 P ρ)(hi9:(P.info? (ρ.t 9)).map (fun i=>(i.zero,i.size,i.bytes))=some (some (.string ByteArray.empty),1,16))(s:ByteArray)(c:UInt8)(w:World)(hs:s.size<4294967281):
 Calls P (ρ.f 146) #[.string s,.string ⟨#[c]⟩] w fun e w' =>
  e= .returned (.slice (some ⟨w.heap.size,0,none⟩) (Lib.countB s ⟨#[c]⟩+1) (Lib.countB s ⟨#[c]⟩+1))/\w' =w.alloc (.cells ((Lib.splitB ⟨#[c]⟩ 0 (Lib.countB s ⟨#[c]⟩) s).map Value.string).toArray (ρ.t 9)):=by
 have h1:1<=(⟨#[c]⟩:ByteArray).size:=Zg 1;have hle:=Lib.countB_le ⟨#[c]⟩ h1 s.size s (Zg _);have hlen:=Lib.splitB_all ⟨#[c]⟩ h1 0 _ s rfl;have hI:∀(x:ByteArray) (cc:Array Value),x.size<=s.size->Calls P (ρ.f 143) #[.string x,.string ⟨#[c]⟩] (w.alloc (.cells cc (ρ.t 9))) fun e w' =>e= .returned (.int .i64 (Lib.indexB x ⟨#[c]⟩))/\w' =w.alloc (.cells cc (ρ.t 9)):=by
  intro x cc _;refine(Any.strings_Index_one { L with } x c _).mono fun e w' ⟨he,hw⟩=>⟨?_,hw⟩;rw [he];show _=Ending.returned (Value.int .i64 (Lib.index x.data.toList [c]));rw [xIP]
 have hC:Calls P (ρ.f 138) #[.string s,.string ⟨#[c]⟩] w fun e w' =>e= .returned (.int .i64 (Lib.countB s ⟨#[c]⟩))/\w' =w:=by
  refine(Any.strings_Count_one { L with } s c w).mono fun e w' ⟨he,hw⟩=>⟨?_,hw⟩;rw [he];show _=Ending.returned (Value.int .i64 ((Lib.count s.data.toList [c]:Nat):Int));rw [Lib.count_one]
  rfl
 have cc:=Any.strings_genSplit_core { L with } hi9 s ⟨#[c]⟩ 0 (-1) (Lib.countB s ⟨#[c]⟩+1) w hs h1 (Z3 _) hI hC (by decide) (by decide) (by rw [Zx (by decide)];omega);rw [Xd,hlen] at cc;have e2:Lib.cellsOf (Lib.splitB ⟨#[c]⟩ 0 (Lib.countB s ⟨#[c]⟩) s) (Lib.countB s ⟨#[c]⟩+1)=((Lib.splitB ⟨#[c]⟩ 0 (Lib.countB s ⟨#[c]⟩) s).map Value.string).toArray:=by rw [<-hlen];exact Lib.cellsOf_full _
 rw [e2] at cc;have t3:=L.t3;have t9:=L.t9;have t31:=L.t31;have a3:=L.a3;have a9:=L.a9;have a31:=L.a31;have z3:=L.z3;have v3:=L.v3;have z9:=L.z9;have v9:=L.v9;have z31:=L.z31;have v31:=L.v31;have e221:∀args w,(callFunc (ρ.f 221) args).run P w= .ok (.enter (ρ.f 221) args) w:=enters_of L.f221 (by kernel_rfl) rfl
 go_enter L.f146,Body.n146_ntmps ρ
 go_wp2_with (go_at_fn (ρ.f 221);refine cc.mono ?_;rintro e w' ⟨rfl,hw⟩;rw [hw])
 go_ret
 exact⟨rfl,rfl⟩
theorem xEx(L:Lays.n146 P ρ):∀args w,(callFunc (ρ.f 146) args).run P w= .ok (.enter (ρ.f 146) args) w:=enters_of L.f146 (by kernel_rfl) rfl
end Go.Ab
end
section
namespace Go.Proofs
open Go.Shelf
def Tryz.lays125_ren:Go.Shelf.Ren:=⟨fun |125=>169|128=>190|129=>191|n=>n,fun |46=>109|3=>3|51=>152|53=>154|4=>4|5=>5|9=>9|n=>n,fun |n=>n⟩
theorem Tryz.lays125:Go.Proofs.Lays.n125 Tryz.prog Tryz.lays125_ren:= {
 mixed:=by kernel_rfl
 f125:=Tryz.func169.trans (Zc some (by kernel_rfl))
 f128:=Tryz.func190.trans (Zc some (by kernel_rfl))
 f129:=Tryz.func191.trans (Zc some (by kernel_rfl))
 t3:=Tryz.underlying3
 a3:=Tryz.isAgg3
 z3:=Tryz.sizeOf3
 v3:=Tryz.zeroValue3
 t4:=Tryz.underlying4
 a4:=Tryz.isAgg4
 z4:=Tryz.sizeOf4
 v4:=Tryz.zeroValue4
 t5:=Tryz.underlying5
 a5:=Tryz.isAgg5
 z5:=Tryz.sizeOf5
 v5:=Tryz.zeroValue5
 t9:=Tryz.underlying9
 a9:=Tryz.isAgg9
 z9:=Tryz.sizeOf9
 v9:=Tryz.zeroValue9
 t46:=Tryz.underlying109
 a46:=Tryz.isAgg109
 z46:=Tryz.sizeOf109
 v46:=Tryz.zeroValue109
 t51:=Tryz.underlying152
 a51:=Tryz.isAgg152
 z51:=Tryz.sizeOf152
 v51:=Tryz.zeroValue152
 t53:=Tryz.underlying154
 a53:=Tryz.isAgg154
 z53:=Tryz.sizeOf154
 v53:=Tryz.zeroValue154 }
def Tryz.lays191_ren:Go.Shelf.Ren:=⟨fun |191=>100|189=>146|125=>169|257=>171|128=>190|129=>191|294=>200|295=>201|296=>202|297=>203|298=>204|299=>205|216=>206|300=>207|301=>208|328=>219|329=>220|330=>221|331=>222|332=>223|215=>224|343=>231|n=>n,fun |28=>56|0=>0|3=>3|46=>109|51=>152|53=>154|4=>4|183=>165|182=>164|131=>161|5=>5|9=>9|218=>181|222=>179|228=>188|229=>186|n=>n,fun |n=>n⟩
theorem Tryz.lays191:Go.Proofs.Lays.n191 Tryz.prog Tryz.lays191_ren:= {
 mixed:=by kernel_rfl
 f125:=Tryz.func169.trans (Zc some (by kernel_rfl))
 f128:=Tryz.func190.trans (Zc some (by kernel_rfl))
 f129:=Tryz.func191.trans (Zc some (by kernel_rfl))
 f189:=Tryz.func146.trans (Zc some (by kernel_rfl))
 f191:=Tryz.func100.trans (Zc some (by kernel_rfl))
 f215:=Tryz.func224.trans (Zc some (by kernel_rfl))
 f216:=Tryz.func206.trans (Zc some (by kernel_rfl))
 f257:=Tryz.func171.trans (Zc some (by kernel_rfl))
 f294:=Tryz.func200.trans (Zc some (by kernel_rfl))
 f295:=Tryz.func201.trans (Zc some (by kernel_rfl))
 f296:=Tryz.func202.trans (Zc some (by kernel_rfl))
 f297:=Tryz.func203.trans (Zc some (by kernel_rfl))
 f298:=Tryz.func204.trans (Zc some (by kernel_rfl))
 f299:=Tryz.func205.trans (Zc some (by kernel_rfl))
 f300:=Tryz.func207.trans (Zc some (by kernel_rfl))
 f301:=Tryz.func208.trans (Zc some (by kernel_rfl))
 f328:=Tryz.func219.trans (Zc some (by kernel_rfl))
 f329:=Tryz.func220.trans (Zc some (by kernel_rfl))
 f330:=Tryz.func221.trans (Zc some (by kernel_rfl))
 f331:=Tryz.func222.trans (Zc some (by kernel_rfl))
 f332:=Tryz.func223.trans (Zc some (by kernel_rfl))
 f343:=Tryz.func231.trans (Zc some (by kernel_rfl))
 t0:=Tryz.underlying0
 a0:=Tryz.isAgg0
 z0:=Tryz.sizeOf0
 v0:=Tryz.zeroValue0
 t3:=Tryz.underlying3
 a3:=Tryz.isAgg3
 z3:=Tryz.sizeOf3
 v3:=Tryz.zeroValue3
 t4:=Tryz.underlying4
 a4:=Tryz.isAgg4
 z4:=Tryz.sizeOf4
 v4:=Tryz.zeroValue4
 t5:=Tryz.underlying5
 a5:=Tryz.isAgg5
 z5:=Tryz.sizeOf5
 v5:=Tryz.zeroValue5
 t9:=Tryz.underlying9
 a9:=Tryz.isAgg9
 z9:=Tryz.sizeOf9
 v9:=Tryz.zeroValue9
 t28:=Tryz.underlying56
 a28:=Tryz.isAgg56
 z28:=Tryz.sizeOf56
 v28:=Tryz.zeroValue56
 t46:=Tryz.underlying109
 a46:=Tryz.isAgg109
 z46:=Tryz.sizeOf109
 v46:=Tryz.zeroValue109
 t51:=Tryz.underlying152
 a51:=Tryz.isAgg152
 z51:=Tryz.sizeOf152
 v51:=Tryz.zeroValue152
 t53:=Tryz.underlying154
 a53:=Tryz.isAgg154
 z53:=Tryz.sizeOf154
 v53:=Tryz.zeroValue154
 t131:=Tryz.underlying161
 a131:=Tryz.isAgg161
 z131:=Tryz.sizeOf161
 v131:=Tryz.zeroValue161
 t182:=Tryz.underlying164
 a182:=Tryz.isAgg164
 z182:=Tryz.sizeOf164
 v182:=Tryz.zeroValue164
 t183:=Tryz.underlying165
 a183:=Tryz.isAgg165
 z183:=Tryz.sizeOf165
 v183:=Tryz.zeroValue165
 t218:=Tryz.underlying181
 a218:=Tryz.isAgg181
 z218:=Tryz.sizeOf181
 v218:=Tryz.zeroValue181
 t222:=Tryz.underlying179
 a222:=Tryz.isAgg179
 z222:=Tryz.sizeOf179
 v222:=Tryz.zeroValue179
 t228:=Tryz.underlying188
 a228:=Tryz.isAgg188
 z228:=Tryz.sizeOf188
 v228:=Tryz.zeroValue188
 t229:=Tryz.underlying186
 a229:=Tryz.isAgg186
 z229:=Tryz.sizeOf186
 v229:=Tryz.zeroValue186 }
def Tryz.laysGg6_ren:Go.Shelf.Ren:=⟨fun |6=>143|10=>166|11=>167|12=>168|13=>169|14=>170|24=>190|25=>191|26=>192|27=>193|28=>194|29=>195|30=>196|31=>197|32=>198|33=>199|34=>214|35=>215|36=>216|37=>217|38=>218|39=>230|n=>n,fun |20=>20|26=>121|35=>132|0=>0|37=>134|3=>3|41=>109|44=>140|49=>152|51=>154|4=>4|54=>157|53=>156|58=>161|5=>5|9=>9|60=>175|64=>179|66=>185|67=>186|17=>17|32=>129|33=>130|82=>209|12=>12|75=>202|76=>203|77=>204|78=>205|79=>206|80=>207|n=>n,fun |n=>n⟩
theorem Tryz.laysGg6:Go.Proofs.LaysGg.n6 Tryz.prog Tryz.laysGg6_ren:= {
 mixed:=by kernel_rfl
 f6:=Tryz.func143.trans (Zc some (by kernel_rfl))
 f10:=Tryz.func166.trans (Zc some (by kernel_rfl))
 f11:=Tryz.func167.trans (Zc some (by kernel_rfl))
 f12:=Tryz.func168.trans (Zc some (by kernel_rfl))
 f13:=Tryz.func169.trans (Zc some (by kernel_rfl))
 f14:=Tryz.func170.trans (Zc some (by kernel_rfl))
 f24:=Tryz.func190.trans (Zc some (by kernel_rfl))
 f25:=Tryz.func191.trans (Zc some (by kernel_rfl))
 f26:=Tryz.func192.trans (Zc some (by kernel_rfl))
 f27:=Tryz.func193.trans (Zc some (by kernel_rfl))
 f28:=Tryz.func194.trans (Zc some (by kernel_rfl))
 f29:=Tryz.func195.trans (Zc some (by kernel_rfl))
 f30:=Tryz.func196.trans (Zc some (by kernel_rfl))
 f31:=Tryz.func197.trans (Zc some (by kernel_rfl))
 f32:=Tryz.func198.trans (Zc some (by kernel_rfl))
 f33:=Tryz.func199.trans (Zc some (by kernel_rfl))
 f34:=Tryz.func214.trans (Zc some (by kernel_rfl))
 f35:=Tryz.func215.trans (Zc some (by kernel_rfl))
 f36:=Tryz.func216.trans (Zc some (by kernel_rfl))
 f37:=Tryz.func217.trans (Zc some (by kernel_rfl))
 f38:=Tryz.func218.trans (Zc some (by kernel_rfl))
 f39:=Tryz.func230.trans (Zc some (by kernel_rfl))
 t0:=Tryz.underlying0
 a0:=Tryz.isAgg0
 z0:=Tryz.sizeOf0
 v0:=Tryz.zeroValue0
 i0:=by kernel_rfl
 t3:=Tryz.underlying3
 a3:=Tryz.isAgg3
 z3:=Tryz.sizeOf3
 v3:=Tryz.zeroValue3
 i3:=by kernel_rfl
 t4:=Tryz.underlying4
 a4:=Tryz.isAgg4
 z4:=Tryz.sizeOf4
 v4:=Tryz.zeroValue4
 i4:=by kernel_rfl
 t5:=Tryz.underlying5
 a5:=Tryz.isAgg5
 z5:=Tryz.sizeOf5
 v5:=Tryz.zeroValue5
 i5:=by kernel_rfl
 t9:=Tryz.underlying9
 a9:=Tryz.isAgg9
 z9:=Tryz.sizeOf9
 v9:=Tryz.zeroValue9
 i9:=by kernel_rfl
 t12:=Tryz.underlying12
 a12:=Tryz.isAgg12
 z12:=Tryz.sizeOf12
 v12:=Tryz.zeroValue12
 i12:=by kernel_rfl
 t17:=Tryz.underlying17
 a17:=Tryz.isAgg17
 z17:=Tryz.sizeOf17
 v17:=Tryz.zeroValue17
 i17:=by kernel_rfl
 t20:=Tryz.underlying20
 a20:=Tryz.isAgg20
 z20:=Tryz.sizeOf20
 v20:=Tryz.zeroValue20
 i20:=by kernel_rfl
 t26:=Tryz.underlying121
 a26:=Tryz.isAgg121
 z26:=Tryz.sizeOf121
 v26:=Tryz.zeroValue121
 i26:=by kernel_rfl
 t32:=Tryz.underlying129
 a32:=Tryz.isAgg129
 z32:=Tryz.sizeOf129
 v32:=Tryz.zeroValue129
 i32:=by kernel_rfl
 t33:=Tryz.underlying130
 a33:=Tryz.isAgg130
 z33:=Tryz.sizeOf130
 v33:=Tryz.zeroValue130
 i33:=by kernel_rfl
 t35:=Tryz.underlying132
 a35:=Tryz.isAgg132
 z35:=Tryz.sizeOf132
 v35:=Tryz.zeroValue132
 i35:=by kernel_rfl
 t37:=Tryz.underlying134
 a37:=Tryz.isAgg134
 z37:=Tryz.sizeOf134
 v37:=Tryz.zeroValue134
 i37:=by kernel_rfl
 t41:=Tryz.underlying109
 a41:=Tryz.isAgg109
 z41:=Tryz.sizeOf109
 v41:=Tryz.zeroValue109
 i41:=by kernel_rfl
 t44:=Tryz.underlying140
 a44:=Tryz.isAgg140
 z44:=Tryz.sizeOf140
 v44:=Tryz.zeroValue140
 i44:=by kernel_rfl
 t49:=Tryz.underlying152
 a49:=Tryz.isAgg152
 z49:=Tryz.sizeOf152
 v49:=Tryz.zeroValue152
 i49:=by kernel_rfl
 t51:=Tryz.underlying154
 a51:=Tryz.isAgg154
 z51:=Tryz.sizeOf154
 v51:=Tryz.zeroValue154
 i51:=by kernel_rfl
 t53:=Tryz.underlying156
 a53:=Tryz.isAgg156
 z53:=Tryz.sizeOf156
 v53:=Tryz.zeroValue156
 i53:=by kernel_rfl
 t54:=Tryz.underlying157
 a54:=Tryz.isAgg157
 z54:=Tryz.sizeOf157
 v54:=Tryz.zeroValue157
 i54:=by kernel_rfl
 t58:=Tryz.underlying161
 a58:=Tryz.isAgg161
 z58:=Tryz.sizeOf161
 v58:=Tryz.zeroValue161
 i58:=by kernel_rfl
 t60:=Tryz.underlying175
 a60:=Tryz.isAgg175
 z60:=Tryz.sizeOf175
 v60:=Tryz.zeroValue175
 i60:=by kernel_rfl
 t64:=Tryz.underlying179
 a64:=Tryz.isAgg179
 z64:=Tryz.sizeOf179
 v64:=Tryz.zeroValue179
 i64:=by kernel_rfl
 t66:=Tryz.underlying185
 a66:=Tryz.isAgg185
 z66:=Tryz.sizeOf185
 v66:=Tryz.zeroValue185
 i66:=by kernel_rfl
 t67:=Tryz.underlying186
 a67:=Tryz.isAgg186
 z67:=Tryz.sizeOf186
 v67:=Tryz.zeroValue186
 i67:=by kernel_rfl
 t75:=Tryz.underlying202
 a75:=Tryz.isAgg202
 z75:=Tryz.sizeOf202
 v75:=Tryz.zeroValue202
 i75:=by kernel_rfl
 t76:=Tryz.underlying203
 a76:=Tryz.isAgg203
 z76:=Tryz.sizeOf203
 v76:=Tryz.zeroValue203
 i76:=by kernel_rfl
 t77:=Tryz.underlying204
 a77:=Tryz.isAgg204
 z77:=Tryz.sizeOf204
 v77:=Tryz.zeroValue204
 i77:=by kernel_rfl
 t78:=Tryz.underlying205
 a78:=Tryz.isAgg205
 z78:=Tryz.sizeOf205
 v78:=Tryz.zeroValue205
 i78:=by kernel_rfl
 t79:=Tryz.underlying206
 a79:=Tryz.isAgg206
 z79:=Tryz.sizeOf206
 v79:=Tryz.zeroValue206
 i79:=by kernel_rfl
 t80:=Tryz.underlying207
 a80:=Tryz.isAgg207
 z80:=Tryz.sizeOf207
 v80:=Tryz.zeroValue207
 i80:=by kernel_rfl
 t82:=Tryz.underlying209
 a82:=Tryz.isAgg209
 z82:=Tryz.sizeOf209
 v82:=Tryz.zeroValue209
 i82:=by kernel_rfl }
def Tryz.lays146_ren:Go.Shelf.Ren:=⟨fun |146=>141|221=>165|268=>178|138=>179|143=>180|195=>210|197=>211|218=>212|219=>213|260=>225|217=>226|225=>227|224=>228|267=>229|266=>232|314=>233|n=>n,fun |9=>9|31=>27|3=>3|4=>4|0=>0|105=>172|21=>21|5=>5|46=>109|119=>190|139=>193|138=>192|146=>194|51=>152|n=>n,fun |1=>0|3=>1|4=>2|n=>n⟩
theorem Tryz.lays146:Go.Proofs.Lays.n146 Tryz.prog Tryz.lays146_ren:= {
 mixed:=by kernel_rfl
 f138:=Tryz.func179.trans (Zc some (by kernel_rfl))
 f143:=Tryz.func180.trans (Zc some (by kernel_rfl))
 f146:=Tryz.func141.trans (Zc some (by kernel_rfl))
 f195:=Tryz.func210.trans (Zc some (by kernel_rfl))
 f197:=Tryz.func211.trans (Zc some (by kernel_rfl))
 f217:=Tryz.func226.trans (Zc some (by kernel_rfl))
 f218:=Tryz.func212.trans (Zc some (by kernel_rfl))
 f219:=Tryz.func213.trans (Zc some (by kernel_rfl))
 f221:=Tryz.func165.trans (Zc some (by kernel_rfl))
 f224:=Tryz.func228.trans (Zc some (by kernel_rfl))
 f225:=Tryz.func227.trans (Zc some (by kernel_rfl))
 f260:=Tryz.func225.trans (Zc some (by kernel_rfl))
 f266:=Tryz.func232.trans (Zc some (by kernel_rfl))
 f267:=Tryz.func229.trans (Zc some (by kernel_rfl))
 f268:=Tryz.func178.trans (Zc some (by kernel_rfl))
 f314:=Tryz.func233.trans (Zc some (by kernel_rfl))
 t0:=Tryz.underlying0
 a0:=Tryz.isAgg0
 z0:=Tryz.sizeOf0
 v0:=Tryz.zeroValue0
 t3:=Tryz.underlying3
 a3:=Tryz.isAgg3
 z3:=Tryz.sizeOf3
 v3:=Tryz.zeroValue3
 t4:=Tryz.underlying4
 a4:=Tryz.isAgg4
 z4:=Tryz.sizeOf4
 v4:=Tryz.zeroValue4
 t5:=Tryz.underlying5
 a5:=Tryz.isAgg5
 z5:=Tryz.sizeOf5
 v5:=Tryz.zeroValue5
 t9:=Tryz.underlying9
 a9:=Tryz.isAgg9
 z9:=Tryz.sizeOf9
 v9:=Tryz.zeroValue9
 t21:=Tryz.underlying21
 a21:=Tryz.isAgg21
 z21:=Tryz.sizeOf21
 v21:=Tryz.zeroValue21
 t31:=Tryz.underlying27
 a31:=Tryz.isAgg27
 z31:=Tryz.sizeOf27
 v31:=Tryz.zeroValue27
 t46:=Tryz.underlying109
 a46:=Tryz.isAgg109
 z46:=Tryz.sizeOf109
 v46:=Tryz.zeroValue109
 t51:=Tryz.underlying152
 a51:=Tryz.isAgg152
 z51:=Tryz.sizeOf152
 v51:=Tryz.zeroValue152
 t105:=Tryz.underlying172
 a105:=Tryz.isAgg172
 z105:=Tryz.sizeOf172
 v105:=Tryz.zeroValue172
 t119:=Tryz.underlying190
 a119:=Tryz.isAgg190
 z119:=Tryz.sizeOf190
 t138:=Tryz.underlying192
 a138:=Tryz.isAgg192
 z138:=Tryz.sizeOf192
 v138:=Tryz.zeroValue192
 t139:=Tryz.underlying193
 a139:=Tryz.isAgg193
 z139:=Tryz.sizeOf193
 v139:=Tryz.zeroValue193
 t146:=Tryz.underlying194
 a146:=Tryz.isAgg194
 z146:=Tryz.sizeOf194
 v146:=Tryz.zeroValue194
 g1:=by kernel_rfl
 g3:=by kernel_rfl
 g4:=by kernel_rfl }
end Go.Proofs
end
section
open Go.Proofs
namespace Go.Ab.T
variable [Inhabited Lb]
abbrev AbC(f:FuncId)(a:List Arg)(r:CallO):Prop:=AbsCalls Tryz.prog f a r
abbrev W(x:Int):Int:=IntKind.i64.wrap x
abbrev Ln{α:Type}(l:List α):Nat:=List.length l
abbrev tN(x:Int):Nat:=Int.toNat x
abbrev gD{α:Type}(l:List α)(i:Nat)(d:α):α:=List.getD l i d
abbrev iY(b:Bool):Prop:=b=true
abbrev iN(b:Bool):Prop:=b=false
abbrev dc(p:Prop) [Decidable p]:Bool:=decide p
abbrev vd:Val:=Dv
abbrev rd:Rowd:=Dr
end Go.Ab.T
end
section
open Go.Proofs
namespace Go.Ab.T
set_option maxRecDepth 100000
variable [Inhabited Lb]
def tt:TT:=[(3,{ zero:=some [.int .i64 0],ik:=some .i64 }),
 (4,{ zero:=some [.bool false],isBool:=true }),
 (5,{ zero:=some [.int .u8 0],ik:=some .u8 }),
 (9,{ zero:=some [.str []],isStr:=true }),
 (22,{ zero:=some [.sl .own .byte []],elem:=some (5,.byte) }),
 (24,{ zero:=some [.sl .own .val []],elem:=some (30,.val) }),
 (27,{ zero:=some [.sl .own .str []],elem:=some (9,.str) }),
 (28,{ zero:=some [.sl .own .row []],elem:=some (77,.row) }),
 (30,{ sz:=7,agg:=true,zero:=some [.int .i64 0,.int .i64 0,.int .i64 0,.str [],.sl .own .val [],.sl .own .str [],.sl .own .row []],offs:=[0,1,2,3,4,5,6],fsz:=[1,1,1,1,1,1,1] }),
 (35,{ zero:=some [.sl .own .val []],elem:=some (64,.val) }),
 (56,{ zero:=some [.sl .own .int []],elem:=some (3,.int) }),
 (62,{ zero:=some [.sl .own .row []],elem:=some (126,.row) }),
 (64,{ sz:=7,agg:=true,zero:=some [.int .i64 0,.int .i64 0,.int .i64 0,.str [],.sl .own .val [],.sl .own .str [],.sl .own .row []],offs:=[0,1,2,3,4,5,6],fsz:=[1,1,1,1,1,1,1] }),
 (72,{ sz:=3,agg:=true,zero:=some [.sl .own .byte [],.int .i64 0,.int .i64 0],offs:=[0,1,2],fsz:=[1,1,1] }),
 (75,{ zero:=some [.sl .own .org []],elem:=some (112,.org) }),
 (77,{ sz:=2,agg:=true,zero:=some [.sl .own .int [],.sl .own .org []],offs:=[0,1],fsz:=[1,1] }),
 (109,{ zero:=some [.int .u64 0],ik:=some .u64 }),
 (112,{ sz:=2,agg:=true,zero:=some [.int .i64 0,.int .i64 0],offs:=[0,1],fsz:=[1,1],same:=true }),
 (121,{ zero:=some [.val .nilFunc],isFn:=true }),
 (124,{ zero:=some [.sl .own .org []],elem:=some (171,.org) }),
 (126,{ sz:=2,agg:=true,zero:=some [.sl .own .int [],.sl .own .org []],offs:=[0,1],fsz:=[1,1] }),
 (134,{ zero:=some [.val .nilFunc],isFn:=true }),
 (140,{ sz:=2,agg:=true,zero:=some [.val .nilFunc,.val .nilFunc],offs:=[0,1],fsz:=[1,1] }),
 (154,{ zero:=some [.int .u64 0],ik:=some .u64 }),
 (156,{ zero:=some [.int .i64 0],ik:=some .i64 }),
 (171,{ sz:=2,agg:=true,zero:=some [.int .i64 0,.int .i64 0],offs:=[0,1],fsz:=[1,1],same:=true }),
 (175,{ zero:=some [.int .u64 0],ik:=some .u64 })]
theorem IU:aO Tryz.prog tt:=zAs (by kernel_rfl)
theorem mix:Tryz.prog.follows .mixedOrders=true:=by kernel_rfl
def F:Bool:=false
def cl(r:CallO):CallO:=⟨r.res,r.outs,[.clo 0 []]⟩
def Y:Bool:=true
noncomputable def mI (fn:Func) (nt:Nat) (results:List ResultVar) (keep:List Nat) (live:List (Nat×List Nat)) (modes:List (Nat×List (Nat×Md×Bool))) (ext:List Nat:=[]) (lnt:List (Nat×Nat):=[]) (casts:List (Nat×List (Nat×Nat×Bool)):=[]) (fcast:List (Nat×Nat×Bool):=[]):Info:= { body:=fn.body.getD .skip,nt:=nt,results:=results,keep:=keep,live:=live,modes:=modes,ext:=ext,lnt:=lnt,casts:=casts,fcast:=fcast }
noncomputable def rE (I:Info) (ag:List Arg) (bs:List Bool) (cs:List CallO):Option Res:=run tt (AbsCalls Tryz.prog) I 3000 false [.code I.body] ⟨aW 0 ag,bs,cs,[]⟩
noncomputable def rS (k:Nat) (I:Info) (σ:St) (bs:List Bool) (cs:List CallO):Option Res:=run tt (AbsCalls Tryz.prog) I 3000 true (zAr k I.body) ⟨σ,bs,cs,[]⟩
noncomputable def dn (r:CallO) (ob:List Prop):Option Res:=some (.done r ob)
noncomputable def st (k:Nat) (I:Info) (σ:St) (ob:List Prop):Option Res:=some (.stop (zAr k I.body) σ ob)
def H{α:Type}(bs:List Bool)(cs:List CallO)(ob:List Prop)(x:Option α)(r:α):Prop:=(∀p∈ob,p)/\x=some r
def nth:List Prop->Nat->Prop
 | [],_=>True
 |p::_,0=>p
 |_::l,n+1=>nth l n
theorem gt0:∀ {ob:List Prop} (_:∀p∈ob,p) (n:Nat),nth ob n
 | [],_,_=>trivial
 |_::_,a,0=>a _ Zp
 |_::_,a,n+1=>gt0 (fun q h=>a q (Zr _ h)) n
section
variable {α ρ:Type} {f g:FuncId} {fn:Func} {I:Info} {ag az:List Arg} {bs:List Bool} {cs:List CallO} {k j:Nat} {σ σ' :St} {ob:List Prop} {ro:ρ->CallO} {q R O E:CallO} {b c:Bool} {p C:Prop} {x y:Option α} {r:α}
def RE(hf:FnOk Tryz.prog f fn I)(ag:List Arg)(r:CallO):Prop:=Reach Tryz.prog fn I [.code I.body] (aW 0 ag) r
def RS(hf:FnOk Tryz.prog f fn I)(k:Nat)(σ:St)(r:CallO):Prop:=Reach Tryz.prog fn I (zAr k I.body) σ r
theorem fO(h1:Tryz.prog.funcs[f]? =some fn)(h2:fn.body=some I.body:=by kernel_rfl)(h3:fn.ntmps=I.nt:=by kernel_rfl)(h4:fn.results.toList=I.results:=by kernel_rfl)(h5:(fn.name== "runtime.NumGoroutine")=false:=by kernel_rfl):FnOk Tryz.prog f fn I:=⟨h1,h2,h3,h4,h5⟩
theorem oK(hf:FnOk Tryz.prog f fn I)(h:RE hf ag q)(h1:rZ ag=true:=by kernel_rfl)(h2:I.ext=aF 0 ag:=by kernel_rfl)(h3:(bA 0 ag).length=I.lnt.length:=by kernel_rfl)(h4:Nat.ble ag.length I.nt=true:=by kernel_rfl):AbC f ag q:=AbsCalls.of_reach hf h1 h2 h3 (jL h4) h
theorem oA(h:x=some r):H [] [] [] x r:=⟨(fun _ h=>by cases h),h⟩
theorem H.rev(a:H bs cs ob x r):∀p∈ob.reverse,p:=fun p h=>a.1 p (Xq.1 h)
theorem ap(h:p)(a:H bs cs ob x r):H bs cs (p::ob) x r:=⟨zAp h a.1,a.2⟩
theorem ab(h:b=c)(a:H bs cs ob x r):H (c::bs) cs ((b=c)::ob) x r:=⟨zAp h a.1,a.2⟩
theorem gt(n:Nat)(a:H bs cs ob x r):nth ob n:=gt0 a.1 n
theorem rp(n:Nat)(a:H bs cs ob x r):H bs cs (nth ob n::ob) x r:=⟨zAp (gt n a) a.1,a.2⟩
theorem rb(c:Bool)(n:Nat)(a:H bs cs ob x r):H (c::bs) cs (nth ob n::ob) x r:=⟨zAp (gt n a) a.1,a.2⟩
theorem cb(c:Bool)(a:H bs cs ob x r):H (c::bs) cs ((c=c)::ob) x r:=⟨zAp rfl a.1,a.2⟩
theorem ax(b c:Bool)(h:b=c)(a:H bs cs ob x r):H (c::bs) cs ((b=c)::ob) x r:=⟨zAp h a.1,a.2⟩
theorem iE [Decidable p](h:H bs cs ob (if p then x else none) r):H bs cs (p::ob) x r:=(zAk h.2).elim fun h1 h2=>⟨zAp h1 h.1,h2⟩
theorem cE(h:H bs cs ob (cond b x y) r)(f:H (true::bs) cs ((b=true)::ob) x r->C)(g:H (false::bs) cs ((b=false)::ob) y r->C):C:=(zAh h.2).elim (fun e=>f ⟨zAp e.1 h.1,e.2⟩) fun e=>g ⟨zAp e.1 h.1,e.2⟩
theorem cM(k:AbC g az (cond b R O))(h:H bs cs ob (cond b x y) r)(f:H bs (R::cs) (AbC g az R::ob) x r->C)(g:H bs (O::cs) (AbC g az O::ob) y r->C):C:=by
 rcases zAh h.2 with ⟨h1,e⟩|⟨h1,e⟩ <;>subst h1
 ·exact f ⟨zAp k h.1,e⟩
 ·exact g ⟨zAp k h.1,e⟩
theorem cN{e0 e1 e2:Bool}(k:AbC g az (cond b R O))(h:H bs cs ob (cond b (if e0=true then if e1=true then if e2=true then x else none else none else none) y) r)(t:b=true->e0=true->e1=true->e2=true->AbC g az E)(f:H bs (E::cs) (AbC g az E::ob) x r->C)(g:H bs (O::cs) (AbC g az O::ob) y r->C):C:=by
 rcases zAh h.2 with ⟨h1,e⟩|⟨h1,e⟩
 ·obtain⟨h2,e⟩:=zAk e;obtain⟨h3,e⟩:=zAk e;obtain⟨h4,e⟩:=zAk e;exact f ⟨zAp (t h1 h2 h3 h4) h.1,e⟩
 ·subst h1;exact g ⟨zAp k h.1,e⟩
section
variable {o:Option ρ} {x:ρ->Option α} {r:α}
theorem bE(h:H bs cs ob (Option.bind o x) r)(k:∀ {v},o=some v->AbC g az (ro v))(f:∀v,H bs (ro v::cs) (AbC g az (ro v)::ob) (x v) r->C):C:=(zAf h.2).elim fun v e=>f v ⟨zAp (k e.1) h.1,e.2⟩
theorem bL(h:H bs cs ob (Option.bind o x) r)(k:∀ {v},o=some v->AbC g az (ro v))(f:∀v,H bs (cl (ro v)::cs) (AbC g az (ro v)::ob) (x v) r->C):C:=(zAf h.2).elim fun v e=>f v ⟨zAp (k e.1) h.1,e.2⟩
theorem bK(h:H bs cs ob (Option.bind o x) r)(k:∀ {v},o=some v->AbC g az (ro v))(f:∀v,AbC g az (ro v)->H bs cs ob (x v) r->C):C:=(zAf h.2).elim fun v e=>f v (k e.1) ⟨h.1,e.2⟩
end
theorem nE{r:α}(h:none=some r):C:=by cases h
section
variable {x r:ρ} {hf:FnOk Tryz.prog f fn I}
theorem dE(a:H bs cs ob (some x) r)(h:rE I ag bs.reverse cs.reverse=dn (ro x) ob.reverse:=by kernel_rfl):RE hf ag (ro r):=by
 have e:=a.2;cases e;exact Reach.done IU mix hf h a.rev
theorem dS(a:H bs cs ob (some x) r)(h:rS k I σ bs.reverse cs.reverse=dn (ro x) ob.reverse:=by kernel_rfl):RS hf k σ (ro r):=by
 have e:=a.2;cases e;exact Reach.done IU mix hf h a.rev
end
theorem tE{hf:FnOk Tryz.prog f fn I}(a:H bs cs ob x r)(t:RS hf k σ q)(h:rE I ag bs.reverse cs.reverse=st k I σ ob.reverse:=by kernel_rfl):RE hf ag q:=Reach.stop IU mix hf h a.rev t
theorem tS{hf:FnOk Tryz.prog f fn I}(a:H bs cs ob x r)(t:RS hf k σ q)(h:rS j I σ' bs.reverse cs.reverse=st k I σ ob.reverse:=by kernel_rfl):RS hf j σ' q:=Reach.stop IU mix hf h a.rev t
theorem nI{P:Nat->Prop}(z:P 0)(s:∀n,P n->P (n+1)):∀n,P n:=fun n=>Nat.rec z s n
end
theorem xFg:FnOk Tryz.prog 216 Tryz.f216 (mI Tryz.f216 33 [.tmp 2] [0,4,1] [] [] (ext:=[0])):=fO Tryz.func216
theorem xMb{N a0 r}(h:Hr N a0=some r):AbC 216 (xMa a0) (xMc r):=
 oK xFg <| dE (ap (show(0:Int)<=17/\(17:Int)<64 by decide) (ap (show(0:Int)<=7/\(7:Int)<64 by decide) (ap (show(0:Int)<=13/\(13:Int)<64 by decide) (oA h))))
theorem xKG{N:Nat}{a0 r:Int}(h:Jb N a0=some r):AbC 169 (xKF a0) (xKH r):=
 zAl (xEy Tryz.lays125) (Any.bits_Len Tryz.lays125) h
theorem xFf:FnOk Tryz.prog 215 Tryz.f215 (mI Tryz.f215 10 [.tmp 2] [0,4,6] [] [(2,[(0,.take,false)])]):=fO Tryz.func215
theorem xLV{N a0 r}(h:Hl N a0=some r):AbC 215 (xLU a0) (xLW r):=
 oK xFf <| bE (oA h) xKG fun r1 h=>dE (iE h)
theorem zS{N:Nat}{a0 a1:Int}{a2 r:List Org}(h:zP N a0 a1 a2=some r):AbC 189 (xIV a0 a1 a2) (xIW r):=
 zAn (run_callFunc_extern Tryz.func189 (by kernel_rfl) (by kernel_rfl) (by kernel_rfl) (by kernel_rfl)) 112 _ (Option.some_get (by kernel_rfl:(Tryz.prog.info? 112).isSome=true)).symm (by kernel_rfl) Tryz.isAgg112 h
theorem MV:FnOk Tryz.prog 196 Tryz.f196 (mI Tryz.f196 23 [] [0,2,4,6,12,14,26,2000006,7,2000007] [(3,[6,12,14,2000006,7,2000007])] [] (ext:=[1000003])):=fO Tryz.func196
def xCm(x6 x7:Int)(g003:List Org):St:=[(6,(vP 3)),(12,(vI x6)),(14,(vI x7)),(7,.v true [.clo 144 [1000003],.swp 189 0 (.pointer (some ⟨3,112,none⟩)) 1000003]),(2000007,.v true [.sl (.lnt 0) .org g003])]
theorem xDY{N}:∀n x6 x7 g003 r,Ep N n x6 x7 g003=some r->RS MV 3 (xCm x6 x7 g003) (Of r):=
 nI (fun _ _ _ _ h=>nE h) fun n ih x6 x7 g003 r h=>cE (oA h) (fun h=>bE h zS fun r1 h=>tS (iE (iE h)) (ih _ _ _ _ (iE (iE h)).2)) fun h=>dS h
theorem xL8{N a0 a1 a2 r}(h:Hq N a0 a1 a2=some r):AbC 196 (xL7 a0 a1 a2) (Of r):=
 oK MV <| tE (oA h) (xDY _ _ _ _ _ h)
theorem ML:FnOk Tryz.prog 194 Tryz.f194 (mI Tryz.f194 54 [] [0,2,4,6,12,14,16,18,20,30,66,86,2000006,7,15,2000007] [(6,[2,6,12,14,16,18,2000006,7,15,2000007])] [(8,[(1,.take,false)])] (ext:=[1000003])):=fO Tryz.func194
def xB7(x1 x6 x8 x9 b7:Int)(g003:List Org):St:=[(2,(vI x1)),(6,(vP 3)),(12,(vI x6)),(14,(vP 7)),(16,.v false [.int .u64 x8]),(18,(vI x9)),(7,.v true [.clo 144 [1000003],.swp 189 0 (.pointer (some ⟨3,112,none⟩)) 1000003]),(15,.v true [.int .u64 b7]),(2000007,.v true [.sl (.lnt 0) .org g003])]
theorem xDG{N}:∀n x1 x6 x8 x9 b7 g003 r,DP N n x1 x6 x8 x9 b7 g003=some r->RS ML 6 (xB7 x1 x6 x8 x9 b7 g003) (Oc r):=
 nI (fun _ _ _ _ _ _ _ h=>nE h) fun n ih x1 x6 x8 x9 b7 g003 r h=>cE (ap (show 4≠(0:Int) by decide) (oA h)) (fun h=>bE h xMb fun r1 h=>cE h (fun h=>bE h zS fun r2 h=>tS (iE (iE h)) (ih _ _ _ _ _ _ _ (iE (iE h)).2)) fun h=>bE h zS fun r2 h=>tS (iE (iE h)) (ih _ _ _ _ _ _ _ (iE (iE h)).2)) fun h=>dS h
theorem xLH{N a0 a1 a2 r}(h:Hg N a0 a1 a2=some r):AbC 194 (xLG a0 a1 a2) (Oc r):=
 oK ML <| cE (oA h) (fun h=>bE h xLV fun r1 h=>tE (ap (show 4≠(0:Int) by decide) h) (xDG _ _ _ _ _ _ _ _ (ap (show 4≠(0:Int) by decide) h).2)) fun h=>dE h
theorem xEZ:FnOk Tryz.prog 145 Tryz.f145 (mI Tryz.f145 24 [.tmp 4] [0,2,4,6,8,5,7] [] [(1,[(5,.take,false),(11,.take,false)])]):=fO Tryz.func145
theorem NO{N a0 a1 r}(h:EG N a0 a1=some r):AbC 145 (xIz a0 a1) (xIB r):=
 oK xEZ <| cE (oA h) (fun h=>dE h) fun h=>cE h (fun h=>dE h) fun h=>dE h
theorem xFF:FnOk Tryz.prog 144 Tryz.f144 (mI Tryz.f144 15 [.tmp 5] [0,2,4,10,5] [] [] (ext:=[2])):=fO Tryz.func144
theorem AX{N a0 a1 a2 r}(h:z8 N a0 a1 a2=some r):AbC 144 (xHN a0 a1 a2) (xHO r):=
 oK xFF <| bE (iE (iE (oA h))) NO fun r1 h=>dE h
theorem Dl:FnOk Tryz.prog 199 Tryz.f199 (mI Tryz.f199 107 [.tmp 8,.tmp 9] [0,2,4,6,8,16,18,20,22,60,86,96,146,172,182,2000008,9,2000009] [(3,[2,8,20,22,2000008,9,2000009]),(5,[2,8,20,22,2000008,9,2000009]),(13,[2,8,20,22,2000008,9,2000009]),(15,[2,8,20,22,2000008,9,2000009])] [(3,[(3,.take,false)]),(5,[(3,.take,false)]),(13,[(3,.take,false)]),(15,[(3,.take,false)])] (ext:=[1000004])):=fO Tryz.func199
def xA9(x1 x10 x11:Int)(g004:List Org):St:=[(2,(vI x1)),(8,(vP 4)),(20,(vI x10)),(22,(vI x11)),(9,.v true [.clo 144 [1000004],.swp 189 0 (.pointer (some ⟨3,112,none⟩)) 1000004]),(2000009,.v true [.sl (.lnt 0) .org g004])]
def xBa(x1 x10 x11:Int)(g004:List Org):St:=[(2,(vI x1)),(8,(vP 4)),(20,(vI x10)),(22,(vI x11)),(9,.v true [.clo 144 [1000004],.swp 189 0 (.pointer (some ⟨3,112,none⟩)) 1000004]),(2000009,.v true [.sl (.lnt 0) .org g004])]
def K7(x1 x10 x11:Int)(g004:List Org):St:=[(2,(vI x1)),(8,(vP 4)),(20,(vI x10)),(22,(vI x11)),(9,.v true [.clo 144 [1000004],.swp 189 0 (.pointer (some ⟨3,112,none⟩)) 1000004]),(2000009,.v true [.sl (.lnt 0) .org g004])]
def xA8(x1 x10 x11:Int)(g004:List Org):St:=[(2,(vI x1)),(8,(vP 4)),(20,(vI x10)),(22,(vI x11)),(9,.v true [.clo 144 [1000004],.swp 189 0 (.pointer (some ⟨3,112,none⟩)) 1000004]),(2000009,.v true [.sl (.lnt 0) .org g004])]
theorem Kl{N}{k13}(hk13:∀z0 z1 z2 z3 r,k13 z0 z1 z2 z3=some r->RS Dl 13 (K7 z0 z1 z2 z3) (Eo r)):∀n x1 x10 x11 g004 r,C1 N k13 n x1 x10 x11 g004=some r->RS Dl 15 (xA8 x1 x10 x11 g004) (Eo r):=
 nI (fun _ _ _ _ _ h=>nE h) fun n ih x1 x10 x11 g004 r h=>cE (oA h) (fun h=>bE h AX fun r1 h=>cE h (fun h=>tS h (ih _ _ _ _ _ h.2)) fun h=>cE h (fun h=>bE h zS fun r2 h=>dS (iE (iE h))) fun h=>bE h zS fun r2 h=>tS (iE (iE h)) (hk13 _ _ _ _ _ (iE (iE h)).2)) fun h=>cE (cb F h) (fun h=>bE h zS fun r1 h=>dS (iE (iE h))) fun h=>bE h zS fun r1 h=>tS (iE (iE h)) (hk13 _ _ _ _ _ (iE (iE h)).2)
theorem Kk{N}:∀n x1 x10 x11 g004 r,BT N n x1 x10 x11 g004=some r->RS Dl 13 (K7 x1 x10 x11 g004) (Eo r):=
 nI (fun _ _ _ _ _ h=>nE h) fun n ih x1 x10 x11 g004 r h=>cE (oA h) (fun h=>bE h AX fun r1 h=>cE h (fun h=>tS h (ih _ _ _ _ _ h.2)) fun h=>tS h (Kl ih _ _ _ _ _ _ h.2)) fun h=>tS (cb F h) (Kl ih _ _ _ _ _ _ (cb F h).2)
theorem Km{N}:∀n x1 x10 x11 g004 r,C2 N n x1 x10 x11 g004=some r->RS Dl 5 (xBa x1 x10 x11 g004) (Eo r):=
 nI (fun _ _ _ _ _ h=>nE h) fun n ih x1 x10 x11 g004 r h=>cE (oA h) (fun h=>bE h AX fun r1 h=>cE h (fun h=>tS h (ih _ _ _ _ _ h.2)) fun h=>cE h (fun h=>bE h zS fun r2 h=>dS (iE (iE h))) fun h=>bE h zS fun r2 h=>tS (iE (iE h)) (Kk _ _ _ _ _ _ (iE (iE h)).2)) fun h=>cE (cb F h) (fun h=>bE h zS fun r1 h=>dS (iE (iE h))) fun h=>bE h zS fun r1 h=>tS (iE (iE h)) (Kk _ _ _ _ _ _ (iE (iE h)).2)
theorem xCR{N}:∀n x1 x10 x11 g004 r,En N n x1 x10 x11 g004=some r->RS Dl 3 (xA9 x1 x10 x11 g004) (Eo r):=
 nI (fun _ _ _ _ _ h=>nE h) fun n ih x1 x10 x11 g004 r h=>cE (oA h) (fun h=>bE h AX fun r1 h=>cE h (fun h=>tS h (ih _ _ _ _ _ h.2)) fun h=>tS h (Km _ _ _ _ _ _ h.2)) fun h=>tS (cb F h) (Km _ _ _ _ _ _ (cb F h).2)
theorem xL4{N a0 a1 a2 a3 r}(h:Hp N a0 a1 a2 a3=some r):AbC 199 (xL3 a0 a1 a2 a3) (Eo r):=
 oK Dl <| bE (oA h) zS fun r1 h=>tE (iE (iE h)) (xCR _ _ _ _ _ _ (iE (iE h)).2)
theorem GQ:FnOk Tryz.prog 198 Tryz.f198 (mI Tryz.f198 58 [.tmp 8] [0,2,4,6,8,16,18,20,60,84,94,2000008,9,2000009] [(3,[2,8,18,20,2000008,9,2000009]),(5,[2,8,18,20,2000008,9,2000009])] [(3,[(3,.take,false)]),(5,[(3,.take,false)])] (ext:=[1000004])):=fO Tryz.func198
def K6(x1 x9 x10:Int)(g004:List Org):St:=[(2,(vI x1)),(8,(vP 4)),(18,(vI x9)),(20,(vI x10)),(9,.v true [.clo 144 [1000004],.swp 189 0 (.pointer (some ⟨3,112,none⟩)) 1000004]),(2000009,.v true [.sl (.lnt 0) .org g004])]
def xA2(x1 x9 x10:Int)(g004:List Org):St:=[(2,(vI x1)),(8,(vP 4)),(18,(vI x9)),(20,(vI x10)),(9,.v true [.clo 144 [1000004],.swp 189 0 (.pointer (some ⟨3,112,none⟩)) 1000004]),(2000009,.v true [.sl (.lnt 0) .org g004])]
theorem Kj{N}{k3}(hk3:∀z0 z1 z2 z3 r,k3 z0 z1 z2 z3=some r->RS GQ 3 (K6 z0 z1 z2 z3) (Ho r)):∀n x1 x9 x10 g004 r,C0 N k3 n x1 x9 x10 g004=some r->RS GQ 5 (xA2 x1 x9 x10 g004) (Ho r):=
 nI (fun _ _ _ _ _ h=>nE h) fun n ih x1 x9 x10 g004 r h=>cE (oA h) (fun h=>bE h AX fun r1 h=>cE h (fun h=>tS h (ih _ _ _ _ _ h.2)) fun h=>cE h (fun h=>dS h) fun h=>bE h zS fun r2 h=>tS (iE (iE h)) (hk3 _ _ _ _ _ (iE (iE h)).2)) fun h=>cE (cb F h) (fun h=>dS h) fun h=>bE h zS fun r1 h=>tS (iE (iE h)) (hk3 _ _ _ _ _ (iE (iE h)).2)
theorem xCL{N}:∀n x1 x9 x10 g004 r,CZ N n x1 x9 x10 g004=some r->RS GQ 3 (K6 x1 x9 x10 g004) (Ho r):=
 nI (fun _ _ _ _ _ h=>nE h) fun n ih x1 x9 x10 g004 r h=>cE (oA h) (fun h=>bE h AX fun r1 h=>cE h (fun h=>tS h (ih _ _ _ _ _ h.2)) fun h=>tS h (Kj ih _ _ _ _ _ _ h.2)) fun h=>tS (cb F h) (Kj ih _ _ _ _ _ _ (cb F h).2)
theorem xL2{N a0 a1 a2 a3 r}(h:Hn N a0 a1 a2 a3=some r):AbC 198 (xL1 a0 a1 a2 a3) (Ho r):=
 oK GQ <| bE (oA h) zS fun r1 h=>tE (iE (iE h)) (xCL _ _ _ _ _ _ (iE (iE h)).2)
theorem Ao:FnOk Tryz.prog 197 Tryz.f197 (mI Tryz.f197 91 [.tmp 6] [0,2,4,6,12,14,16,18,20,28,56,66,74,94,102,120,140,150,168,2000006,7,2000007] [(3,[2,4,6,14,16,2000006,7,2000007]),(5,[2,4,6,14,16,2000006,7,2000007]),(7,[2,4,6,14,16,2000006,7,2000007]),(14,[2,4,6,14,16,18,2000006,7,2000007]),(18,[2,4,6,14,16,2000006,7,2000007]),(20,[2,4,6,14,16,20,2000006,7,2000007])] [(5,[(3,.take,false)])] (ext:=[1000003])):=fO Tryz.func197
def Dj(x1 x2 x7 x8:Int)(g003:List Org):St:=[(2,(vI x1)),(4,(vI x2)),(6,(vP 3)),(14,(vI x7)),(16,(vI x8)),(7,.v true [.clo 144 [1000003],.swp 189 0 (.pointer (some ⟨3,112,none⟩)) 1000003]),(2000007,.v true [.sl (.lnt 0) .org g003])]
def xCx(x1 x2 x7 x8:Int)(g003:List Org):St:=[(2,(vI x1)),(4,(vI x2)),(6,(vP 3)),(14,(vI x7)),(16,(vI x8)),(7,.v true [.clo 144 [1000003],.swp 189 0 (.pointer (some ⟨3,112,none⟩)) 1000003]),(2000007,.v true [.sl (.lnt 0) .org g003])]
def xCy(x1 x2 x7 x8:Int)(g003:List Org):St:=[(2,(vI x1)),(4,(vI x2)),(6,(vP 3)),(14,(vI x7)),(16,(vI x8)),(7,.v true [.clo 144 [1000003],.swp 189 0 (.pointer (some ⟨3,112,none⟩)) 1000003]),(2000007,.v true [.sl (.lnt 0) .org g003])]
def xCu(x1 x2 x7 x8 x9:Int)(g003:List Org):St:=[(2,(vI x1)),(4,(vI x2)),(6,(vP 3)),(14,(vI x7)),(16,(vI x8)),(18,(vI x9)),(7,.v true [.clo 144 [1000003],.swp 189 0 (.pointer (some ⟨3,112,none⟩)) 1000003]),(2000007,.v true [.sl (.lnt 0) .org g003])]
def xCv(x1 x2 x7 x8:Int)(g003:List Org):St:=[(2,(vI x1)),(4,(vI x2)),(6,(vP 3)),(14,(vI x7)),(16,(vI x8)),(7,.v true [.clo 144 [1000003],.swp 189 0 (.pointer (some ⟨3,112,none⟩)) 1000003]),(2000007,.v true [.sl (.lnt 0) .org g003])]
def xCw(x1 x2 x7 x8 x10:Int)(g003:List Org):St:=[(2,(vI x1)),(4,(vI x2)),(6,(vP 3)),(14,(vI x7)),(16,(vI x8)),(20,(vI x10)),(7,.v true [.clo 144 [1000003],.swp 189 0 (.pointer (some ⟨3,112,none⟩)) 1000003]),(2000007,.v true [.sl (.lnt 0) .org g003])]
theorem xD7{N}{k3}(hk3:∀z0 z1 z2 z3 z4 r,k3 z0 z1 z2 z3 z4=some r->RS Ao 3 (Dj z0 z1 z2 z3 z4) (At r)):∀n x1 x2 x7 x8 x10 g003 r,Ek N k3 n x1 x2 x7 x8 x10 g003=some r->RS Ao 20 (xCw x1 x2 x7 x8 x10 g003) (At r):=
 nI (fun _ _ _ _ _ _ _ h=>nE h) fun n ih x1 x2 x7 x8 x10 g003 r h=>cE (oA h) (fun h=>bE h AX fun r1 h=>cE h (fun h=>tS h (hk3 _ _ _ _ _ _ h.2)) fun h=>bE h zS fun r2 h=>tS (iE (iE h)) (ih _ _ _ _ _ _ _ (iE (iE h)).2)) fun h=>tS h (hk3 _ _ _ _ _ _ h.2)
theorem I6{N}{k3}(hk3:∀z0 z1 z2 z3 z4 r,k3 z0 z1 z2 z3 z4=some r->RS Ao 3 (Dj z0 z1 z2 z3 z4) (At r)):∀x1 x2 x7 x8 g003 r,DQ N k3 x1 x2 x7 x8 g003=some r->RS Ao 18 (xCv x1 x2 x7 x8 g003) (At r):=
 fun x1 x2 x7 x8 g003 r h=>cE (oA h) (fun h=>tS h (xD7 hk3 _ _ _ _ _ _ _ _ h.2)) fun h=>tS h (hk3 _ _ _ _ _ _ h.2)
theorem xD6{N}{k3}(hk3:∀z0 z1 z2 z3 z4 r,k3 z0 z1 z2 z3 z4=some r->RS Ao 3 (Dj z0 z1 z2 z3 z4) (At r)):∀n x1 x2 x7 x8 x9 g003 r,Ej N k3 n x1 x2 x7 x8 x9 g003=some r->RS Ao 14 (xCu x1 x2 x7 x8 x9 g003) (At r):=
 nI (fun _ _ _ _ _ _ _ h=>nE h) fun n ih x1 x2 x7 x8 x9 g003 r h=>cE (oA h) (fun h=>bE h AX fun r1 h=>cE h (fun h=>tS h (I6 hk3 _ _ _ _ _ _ h.2)) fun h=>bE h zS fun r2 h=>tS (iE (iE h)) (ih _ _ _ _ _ _ _ (iE (iE h)).2)) fun h=>tS h (I6 hk3 _ _ _ _ _ _ h.2)
theorem LA{N}{k3}(hk3:∀z0 z1 z2 z3 z4 r,k3 z0 z1 z2 z3 z4=some r->RS Ao 3 (Dj z0 z1 z2 z3 z4) (At r)):∀x1 x2 x7 x8 g003 r,Em N k3 x1 x2 x7 x8 g003=some r->RS Ao 7 (xCy x1 x2 x7 x8 g003) (At r):=
 fun x1 x2 x7 x8 g003 r h=>cE (oA h) (fun h=>dS h) fun h=>cE h (fun h=>dS h) fun h=>bE h zS fun r1 h=>cE (iE (iE h)) (fun h=>tS h (xD6 hk3 _ _ _ _ _ _ _ _ h.2)) fun h=>tS h (I6 hk3 _ _ _ _ _ _ h.2)
theorem xD9{N}{k3}(hk3:∀z0 z1 z2 z3 z4 r,k3 z0 z1 z2 z3 z4=some r->RS Ao 3 (Dj z0 z1 z2 z3 z4) (At r)):∀n x1 x2 x7 x8 g003 r,El N k3 n x1 x2 x7 x8 g003=some r->RS Ao 5 (xCx x1 x2 x7 x8 g003) (At r):=
 nI (fun _ _ _ _ _ _ h=>nE h) fun n ih x1 x2 x7 x8 g003 r h=>cE (oA h) (fun h=>bE h AX fun r1 h=>cE h (fun h=>tS h (ih _ _ _ _ _ _ h.2)) fun h=>tS h (LA hk3 _ _ _ _ _ _ h.2)) fun h=>tS (cb F h) (LA hk3 _ _ _ _ _ _ (cb F h).2)
theorem xD8{N}:∀n x1 x2 x7 x8 g003 r,DR N n x1 x2 x7 x8 g003=some r->RS Ao 3 (Dj x1 x2 x7 x8 g003) (At r):=
 nI (fun _ _ _ _ _ _ h=>nE h) fun n ih x1 x2 x7 x8 g003 r h=>cE (oA h) (fun h=>tS h (xD9 ih _ _ _ _ _ _ _ h.2)) fun h=>dS h
theorem xL0{N a0 a1 a2 r}(h:Hm N a0 a1 a2=some r):AbC 197 (xLZ a0 a1 a2) (At r):=
 oK Ao <| tE (oA h) (xD8 _ _ _ _ _ _ _ h)
theorem xE2:FnOk Tryz.prog 230 Tryz.f230 (mI Tryz.f230 24 [.tmp 8,.tmp 9] [0,2,4,6,8,16,18,28,2000008,7,9,2000009] [] [] (ext:=[3,1000004])):=fO Tryz.func230
theorem Ju{N a0 a1 a2 a3 r}(h:Ei N a0 a1 a2 a3=some r):AbC 230 (xLX a0 a1 a2 a3) (xLY r):=
 oK xE2 <| bE (oA h) AX fun r1 h=>cE h (fun h=>dE h) fun h=>dE h
theorem xEY:FnOk Tryz.prog 218 Tryz.f218 (mI Tryz.f218 36 [.tmp 10] [0,2,4,6,8,10,20,2000010,9,11,2000011] [] [(1,[(5,.take,false)]),(2,[(5,.take,false)]),(3,[(5,.take,false)])] (ext:=[4,1000005])):=fO Tryz.func218
theorem Jt{N a0 a1 a2 a3 a4 r}(h:Eh N a0 a1 a2 a3 a4=some r):AbC 218 (xLS a0 a1 a2 a3 a4) (xLT r):=
 oK xEY <| bL (oA h) Ju fun r1 h=>bL h Ju fun r2 h=>bL h Ju fun r3 h=>dE h
theorem xEX:FnOk Tryz.prog 217 Tryz.f217 (mI Tryz.f217 15 [.tmp 6] [0,2,4,6,12,2000006,5,7,2000007] [] [] (ext:=[2,1000003])):=fO Tryz.func217
theorem Js{N a0 a1 a2 r}(h:Eg N a0 a1 a2=some r):AbC 217 (xLQ a0 a1 a2) (xLR r):=
 oK xEX <| bL (oA h) Jt fun r1 h=>dE h
theorem xFv:FnOk Tryz.prog 195 Tryz.f195 (mI Tryz.f195 57 [.tmp 6,.tmp 7] [0,2,4,6,12,14,16,18,20,22,24,64,68,98,102,108,2000006,7,19,2000007] [] [] (ext:=[1000003])):=fO Tryz.func195
theorem xLK{N a0 a1 a2 r}(h:Hh N a0 a1 a2=some r):AbC 195 (xLJ a0 a1 a2) (xLL r):=
 oK xFv <| cE (rp 1 (rp 0 (ap (show 4≠(0:Int) by decide) (oA h)))) (fun h=>cE h (fun h=>bL h Js fun r1 h=>bL h Js fun r2 h=>bL h Js fun r3 h=>bL h Jt fun r4 h=>cE h (fun h=>dE h) fun h=>cE h (fun h=>dE h) fun h=>dE h) fun h=>bL h Jt fun r1 h=>cE h (fun h=>dE h) fun h=>cE h (fun h=>dE h) fun h=>dE h) fun h=>cE h (fun h=>dE h) fun h=>cE h (fun h=>dE h) fun h=>dE h
theorem L4:FnOk Tryz.prog 214 Tryz.f214 (mI Tryz.f214 55 [] [0,2,4,6,8,16,18,32,64,88,2000008,9,2000009] [(2,[4,6,8,16,2000008,9,2000009])] [(4,[(4,.take,false)])] (ext:=[1000004])):=fO Tryz.func214
def xBj(x2 x3 x8:Int)(g004:List Org):St:=[(4,(vI x2)),(6,(vI x3)),(8,(vP 4)),(16,(vI x8)),(9,.v true [.clo 144 [1000004],.swp 189 0 (.pointer (some ⟨3,112,none⟩)) 1000004]),(2000009,.v true [.sl (.lnt 0) .org g004])]
theorem xC0{N}:∀n x2 x3 x8 g004 r,C3 N n x2 x3 x8 g004=some r->RS L4 2 (xBj x2 x3 x8 g004) (Oh r):=
 nI (fun _ _ _ _ _ h=>nE h) fun n ih x2 x3 x8 g004 r h=>cE (oA h) (fun h=>dS h) fun h=>cE h (fun h=>bE h AX fun r1 h=>cE h (fun h=>bE h AX fun r2 h=>cE h (fun h=>dS h) fun h=>bE h zS fun r3 h=>tS (iE (iE h)) (ih _ _ _ _ _ (iE (iE h)).2)) fun h=>bE h AX fun r2 h=>cE h (fun h=>dS h) fun h=>bE h zS fun r3 h=>tS (iE (iE h)) (ih _ _ _ _ _ (iE (iE h)).2)) fun h=>bE (cb F h) AX fun r1 h=>cE h (fun h=>dS h) fun h=>bE h zS fun r2 h=>tS (iE (iE h)) (ih _ _ _ _ _ (iE (iE h)).2)
theorem Og{N a0 a1 a2 a3 r}(h:Er N a0 a1 a2 a3=some r):AbC 214 (xL9 a0 a1 a2 a3) (Oh r):=
 oK L4 <| tE (oA h) (xC0 _ _ _ _ _ _ h)
theorem If:FnOk Tryz.prog 193 Tryz.f193 (mI Tryz.f193 45 [] [0,2,4,6,12,14,16,18,20,38,60,2000006,7,2000007] [(5,[6,12,14,16,18,2000006,7,2000007]),(9,[6,12,14,20,2000006,7,2000007])] [(12,[(1,.take,false)])] (ext:=[1000003])):=fO Tryz.func193
def xBY(x6 x7 x8 x9:Int)(g003:List Org):St:=[(6,(vP 3)),(12,(vI x6)),(14,(vI x7)),(16,(vI x8)),(18,(vI x9)),(7,.v true [.clo 144 [1000003],.swp 189 0 (.pointer (some ⟨3,112,none⟩)) 1000003]),(2000007,.v true [.sl (.lnt 0) .org g003])]
def xBZ(x6 x7 x10:Int)(g003:List Org):St:=[(6,(vP 3)),(12,(vI x6)),(14,(vI x7)),(20,(vI x10)),(7,.v true [.clo 144 [1000003],.swp 189 0 (.pointer (some ⟨3,112,none⟩)) 1000003]),(2000007,.v true [.sl (.lnt 0) .org g003])]
theorem xDC{N}:∀n x6 x7 x10 g003 r,Ec N n x6 x7 x10 g003=some r->RS If 9 (xBZ x6 x7 x10 g003) (Jr r):=
 nI (fun _ _ _ _ _ h=>nE h) fun n ih x6 x7 x10 g003 r h=>cE (oA h) (fun h=>bE h zS fun r1 h=>bL (iE (iE h)) Og fun r2 h=>tS h (ih _ _ _ _ _ h.2)) fun h=>dS h
theorem xDB{N}:∀n x6 x7 x8 x9 g003 r,Eb N n x6 x7 x8 x9 g003=some r->RS If 5 (xBY x6 x7 x8 x9 g003) (Jr r):=
 nI (fun _ _ _ _ _ _ h=>nE h) fun n ih x6 x7 x8 x9 g003 r h=>cE (oA h) (fun h=>bL h Og fun r1 h=>tS h (ih _ _ _ _ _ _ h.2)) fun h=>tS h (xDC _ _ _ _ _ _ h.2)
theorem xLN{N a0 a1 a2 r}(h:Hi N a0 a1 a2=some r):AbC 193 (xLM a0 a1 a2) (Jr r):=
 oK If <| tE (ap (show 2≠(0:Int) by decide) (oA h)) (xDB _ _ _ _ _ _ _ (ap (show 2≠(0:Int) by decide) (oA h)).2)
theorem GR:FnOk Tryz.prog 192 Tryz.f192 (mI Tryz.f192 35 [] [0,2,4,6,12,14,24,52,2000006,7,2000007] [(2,[2,4,6,12,2000006,7,2000007]),(5,[2,4,6,12,14,2000006,7,2000007])] [(5,[(3,.take,false)])] (ext:=[1000003])):=fO Tryz.func192
def K8(x1 x2 x6:Int)(g003:List Org):St:=[(2,(vI x1)),(4,(vI x2)),(6,(vP 3)),(12,(vI x6)),(7,.v true [.clo 144 [1000003],.swp 189 0 (.pointer (some ⟨3,112,none⟩)) 1000003]),(2000007,.v true [.sl (.lnt 0) .org g003])]
def xBS(x1 x2 x6 x7:Int)(g003:List Org):St:=[(2,(vI x1)),(4,(vI x2)),(6,(vP 3)),(12,(vI x6)),(14,(vI x7)),(7,.v true [.clo 144 [1000003],.swp 189 0 (.pointer (some ⟨3,112,none⟩)) 1000003]),(2000007,.v true [.sl (.lnt 0) .org g003])]
theorem xDx{N}{k2}(hk2:∀z0 z1 z2 z3 r,k2 z0 z1 z2 z3=some r->RS GR 2 (K8 z0 z1 z2 z3) (Hk r)):∀n x1 x2 x6 x7 g003 r,Ee N k2 n x1 x2 x6 x7 g003=some r->RS GR 5 (xBS x1 x2 x6 x7 g003) (Hk r):=
 nI (fun _ _ _ _ _ _ h=>nE h) fun n ih x1 x2 x6 x7 g003 r h=>cE (oA h) (fun h=>bE h AX fun r1 h=>cE h (fun h=>bE h zS fun r2 h=>tS (iE (iE h)) (ih _ _ _ _ _ _ (iE (iE h)).2)) fun h=>tS h (hk2 _ _ _ _ _ h.2)) fun h=>tS (cb F h) (hk2 _ _ _ _ _ (cb F h).2)
theorem xDw{N}:∀n x1 x2 x6 g003 r,Ed N n x1 x2 x6 g003=some r->RS GR 2 (K8 x1 x2 x6 g003) (Hk r):=
 nI (fun _ _ _ _ _ h=>nE h) fun n ih x1 x2 x6 g003 r h=>cE (oA h) (fun h=>tS h (xDx ih _ _ _ _ _ _ _ h.2)) fun h=>dS h
theorem xLP{N a0 a1 a2 r}(h:Hj N a0 a1 a2=some r):AbC 192 (xLO a0 a1 a2) (Hk r):=
 oK GR <| tE (oA h) (xDw _ _ _ _ _ _ h)
def Ch(q:Int->Int->Int->(List Org)->Option ((List Org))):Prop:=∀a0 a1 a2 a3 r,q a0 a1 a2 a3=some r->AbC 170 (Jw a0 a1 a2 a3) (Au r)
theorem BK:FnOk Tryz.prog 170 Tryz.f170 (mI Tryz.f170 130 [] [0,2,4,6,8,16,18,20,22,24,26,28,30,32,34,36,46,58,70,100,136,144,166,218,2000008,9,2000009] [(3,[2,4,6,8,16,18,2000008,9,2000009]),(11,[2,4,6,8,16,18,20,2000008,9,2000009]),(16,[2,4,6,8,16,18,20,22,24,2000008,9,2000009]),(18,[2,4,6,8,16,18,20,22,2000008,9,2000009]),(21,[2,4,6,8,20,22,2000008,9,2000009])] [(11,[(4,.take,false)]),(16,[(1,.take,false),(2,.take,false),(4,.take,false)]),(18,[(2,.take,false)]),(20,[(0,.take,false)]),(21,[(5,.take,false)]),(22,[(0,.take,false)])] (ext:=[1000004])):=fO Tryz.func170
def FE(x1 x2 x3:Int)(x8 x9:Bool)(g004:List Org):St:=[(2,(vI x1)),(4,(vI x2)),(6,(vI x3)),(8,(vP 4)),(16,(vB x8)),(18,(vB x9)),(9,.v true [.clo 144 [1000004],.swp 189 0 (.pointer (some ⟨3,112,none⟩)) 1000004]),(2000009,.v true [.sl (.lnt 0) .org g004])]
def xBO(x1 x2 x3:Int)(x8 x9:Bool)(x10:Int)(g004:List Org):St:=[(2,(vI x1)),(4,(vI x2)),(6,(vI x3)),(8,(vP 4)),(16,(vB x8)),(18,(vB x9)),(20,(vI x10)),(9,.v true [.clo 144 [1000004],.swp 189 0 (.pointer (some ⟨3,112,none⟩)) 1000004]),(2000009,.v true [.sl (.lnt 0) .org g004])]
def xBP(x1 x2 x3:Int)(x8 x9:Bool)(x10 x11 x12:Int)(g004:List Org):St:=[(2,(vI x1)),(4,(vI x2)),(6,(vI x3)),(8,(vP 4)),(16,(vB x8)),(18,(vB x9)),(20,(vI x10)),(22,(vI x11)),(24,(vI x12)),(9,.v true [.clo 144 [1000004],.swp 189 0 (.pointer (some ⟨3,112,none⟩)) 1000004]),(2000009,.v true [.sl (.lnt 0) .org g004])]
def xBQ(x1 x2 x3:Int)(x8 x9:Bool)(x10 x11:Int)(g004:List Org):St:=[(2,(vI x1)),(4,(vI x2)),(6,(vI x3)),(8,(vP 4)),(16,(vB x8)),(18,(vB x9)),(20,(vI x10)),(22,(vI x11)),(9,.v true [.clo 144 [1000004],.swp 189 0 (.pointer (some ⟨3,112,none⟩)) 1000004]),(2000009,.v true [.sl (.lnt 0) .org g004])]
def xBR(x1 x2 x3 x10 x11:Int)(g004:List Org):St:=[(2,(vI x1)),(4,(vI x2)),(6,(vI x3)),(8,(vP 4)),(20,(vI x10)),(22,(vI x11)),(9,.v true [.clo 144 [1000004],.swp 189 0 (.pointer (some ⟨3,112,none⟩)) 1000004]),(2000009,.v true [.sl (.lnt 0) .org g004])]
theorem Kq{N}{q0}(g0:Ch q0){k3}(hk3:∀z0 z1 z2 z3 z4 z5 r,k3 z0 z1 z2 z3 z4 z5=some r->RS BK 3 (FE z0 z1 z2 z3 z4 z5) (Au r)):∀x1 x2 x3 x10 x11 g004 r,Fq N q0 k3 x1 x2 x3 x10 x11 g004=some r->RS BK 21 (xBR x1 x2 x3 x10 x11 g004) (Au r):=
 fun x1 x2 x3 x10 x11 g004 r h=>bL (oA h) xL4 fun r1 h=>cE (ap (show 8≠(0:Int) by decide) h) (fun h=>bL h (g0 _ _ _ _ _) fun r2 h=>tS h (hk3 _ _ _ _ _ _ _ h.2)) fun h=>bL h (g0 _ _ _ _ _) fun r2 h=>tS h (hk3 _ _ _ _ _ _ _ h.2)
theorem GM{N}{q0}(g0:Ch q0){k3}(hk3:∀z0 z1 z2 z3 z4 z5 r,k3 z0 z1 z2 z3 z4 z5=some r->RS BK 3 (FE z0 z1 z2 z3 z4 z5) (Au r)):∀x1 x2 x3 x8 x9 x10 x11 g004 r,DS N q0 k3 x1 x2 x3 x8 x9 x10 x11 g004=some r->RS BK 18 (xBQ x1 x2 x3 x8 x9 x10 x11 g004) (Au r):=
 fun x1 x2 x3 x8 x9 x10 x11 g004 r h=>cE (oA h) (fun h=>bE h AX fun r1 h=>cE h (fun h=>bL h xL2 fun r2 h=>tS h (hk3 _ _ _ _ _ _ _ h.2)) fun h=>tS h (Kq g0 hk3 _ _ _ _ _ _ _ h.2)) fun h=>tS (cb F h) (Kq g0 hk3 _ _ _ _ _ _ _ (cb F h).2)
theorem Ko{N}{q0}(g0:Ch q0){k3}(hk3:∀z0 z1 z2 z3 z4 z5 r,k3 z0 z1 z2 z3 z4 z5=some r->RS BK 3 (FE z0 z1 z2 z3 z4 z5) (Au r)):∀x1 x2 x3 x8 x9 x10 x11 x12 g004 r,Fp N q0 k3 x1 x2 x3 x8 x9 x10 x11 x12 g004=some r->RS BK 16 (xBP x1 x2 x3 x8 x9 x10 x11 x12 g004) (Au r):=
 fun x1 x2 x3 x8 x9 x10 x11 x12 g004 r h=>cE (oA h) (fun h=>cE h (fun h=>cE h (fun h=>bL h xL0 fun r1 h=>cE h (fun h=>dS h) fun h=>tS h (GM g0 hk3 _ _ _ _ _ _ _ _ _ h.2)) fun h=>tS h (GM g0 hk3 _ _ _ _ _ _ _ _ _ h.2)) fun h=>tS (cb F h) (GM g0 hk3 _ _ _ _ _ _ _ _ _ (cb F h).2)) fun h=>tS (cb F (cb F h)) (GM g0 hk3 _ _ _ _ _ _ _ _ _ (cb F (cb F h)).2)
theorem Kn{N}{q0}(g0:Ch q0){k3}(hk3:∀z0 z1 z2 z3 z4 z5 r,k3 z0 z1 z2 z3 z4 z5=some r->RS BK 3 (FE z0 z1 z2 z3 z4 z5) (Au r)):∀x1 x2 x3 x8 x9 x10 g004 r,Fo N q0 k3 x1 x2 x3 x8 x9 x10 g004=some r->RS BK 11 (xBO x1 x2 x3 x8 x9 x10 g004) (Au r):=
 fun x1 x2 x3 x8 x9 x10 g004 r h=>bL (oA h) xLK fun r1 h=>cE h (fun h=>bL h xL8 fun r2 h=>tS h (Ko g0 hk3 _ _ _ _ _ _ _ _ _ _ h.2)) fun h=>tS h (Ko g0 hk3 _ _ _ _ _ _ _ _ _ _ h.2)
theorem xDv{N}{q0}(g0:Ch q0):∀n x1 x2 x3 x8 x9 g004 r,DT N q0 n x1 x2 x3 x8 x9 g004=some r->RS BK 3 (FE x1 x2 x3 x8 x9 g004) (Au r):=
 nI (fun _ _ _ _ _ _ _ h=>nE h) fun n ih x1 x2 x3 x8 x9 g004 r h=>cE (oA h) (fun h=>bL h xLP fun r1 h=>dS h) fun h=>cE h (fun h=>bL h xLN fun r1 h=>dS h) fun h=>cE h (fun h=>bL h xLH fun r1 h=>tS h (Kn g0 ih _ _ _ _ _ _ _ _ h.2)) fun h=>tS h (Kn g0 ih _ _ _ _ _ _ _ _ h.2)
theorem xL5{N}{q0}(g0:Ch q0){a0 a1 a2 a3 r}(h:Od N q0 a0 a1 a2 a3=some r):AbC 170 (Jw a0 a1 a2 a3) (Au r):=
 oK BK <| tE (oA h) (xDv g0 _ _ _ _ _ _ _ _ h)
theorem Oe{N:Nat}:∀d,Ch (DU N d)
 |0=>fun _ _ _ _ _ h=>nE h
 |d+1=>fun _ _ _ _ _ h=>xL5 (N:=N) (Oe d) h
theorem sort_pdqsort_func_cUnionOrigins_1_ok{N:Nat}{a0:Int}{a1:Int}{a2:Int}{a3:List Org}{r:(List Org)}(h:Jv N a0 a1 a2 a3=some r):AbC 170 (Jw a0 a1 a2 a3) (Au r):=Oe N _ _ _ _ r h
end Go.Ab.T
end
section
namespace Go.Ab
def Big(p:Nat->Prop):Prop:=∃k,∀N,k<=N->p N
def Big2(p:Nat->Nat->Prop):Prop:=∃k,∀N n,k<=N->k<=n->p N n
theorem Big.imp{p q:Nat->Prop}(h:Big p)(f:∀N,p N->q N):Big q:=h.elim fun k hk=>⟨k,fun N hN=>f N (hk N hN)⟩
theorem Big2.imp{p q:Nat->Nat->Prop}(h:Big2 p)(f:∀N n,p N n->q N n):Big2 q:=h.elim fun k hk=>⟨k,fun N n h1 h2=>f N n (hk N n h1 h2)⟩
theorem Big.of{p:Nat->Prop}(h:∀N,p N):Big p:=⟨0,fun N _=>h N⟩
theorem Big2.of{p:Nat->Nat->Prop}(h:∀N n,p N n):Big2 p:=⟨0,fun N n _ _=>h N n⟩
theorem Big.and{p q:Nat->Prop}(h:Big p)(h' :Big q):Big fun N=>p N/\q N:=by
 obtain⟨a,ha⟩:=h;obtain⟨b,hb⟩:=h';exact⟨max a b,fun N hN=>⟨ha N (by omega),hb N (by omega)⟩⟩
theorem Big2.and{p q:Nat->Nat->Prop}(h:Big2 p)(h' :Big2 q):Big2 fun N n=>p N n/\q N n:=by
 obtain⟨a,ha⟩:=h;obtain⟨b,hb⟩:=h';exact⟨max a b,fun N n h1 h2=>⟨ha N n (by omega) (by omega),hb N n (by omega) (by omega)⟩⟩
theorem Big.two{p:Nat->Prop}(h:Big p):Big2 fun N _=>p N:=h.elim fun k hk=>⟨k,fun N _ h _=>hk N h⟩
theorem Big2.diag{p:Nat->Nat->Prop}(h:Big2 p):Big fun N=>p N N:=h.elim fun k hk=>⟨k,fun N h=>hk N N h h⟩
theorem Big2.succ{p:Nat->Nat->Prop}(h:Big2 fun N n=>p N (n+1)):Big2 p:=by
 obtain⟨k,hk⟩:=h;refine⟨k+1,fun N n h1 h2=> ?_⟩;obtain⟨m,rfl⟩:∃m,n=m+1:=⟨n - 1,by omega⟩;exact hk N m (by omega) (by omega)
theorem Big.list{α:Type}{p:α->Nat->Prop}{l:List α}(h:∀x∈l,Big (p x)):Big fun N=>∀x∈l,p x N:=by
 induction l with
 |nil=>exact .of fun N x hx=>by cases hx
 |cons a l ih=>
  refine((h a Zp).and (ih fun x hx=>h x (Zr _ hx))).imp fun N ⟨h1,h2⟩ x hx=> ?_;rcases Zl.1 hx with rfl|hx
  ·exact h1
  ·exact h2 x hx
theorem Big2.list{α:Type}{p:α->Nat->Nat->Prop}{l:List α}(h:∀x∈l,Big2 (p x)):Big2 fun N n=>∀x∈l,p x N n:=by
 induction l with
 |nil=>exact .of fun N n x hx=>by cases hx
 |cons a l ih=>
  refine((h a Zp).and (ih fun x hx=>h x (Zr _ hx))).imp fun N n ⟨h1,h2⟩ x hx=> ?_;rcases Zl.1 hx with rfl|hx
  ·exact h1
  ·exact h2 x hx
theorem Big.get{p:Nat->Prop}(h:Big p):∃N,p N:=h.elim fun k hk=>⟨k,hk k (Zg k)⟩
def I64(x:Int):Prop:= -9223372036854775808<=x/\x<=9223372036854775807
theorem xA0(x:Int):IntKind.i64.wrap x=if x % 18446744073709551616>=9223372036854775808 then x % 18446744073709551616 - 18446744073709551616 else x % 18446744073709551616:=by
 show(if(true&&decide (x % 18446744073709551616>=9223372036854775808))=true then x % 18446744073709551616 - 18446744073709551616 else x % 18446744073709551616)=_;simp only [ZF,ZU]
theorem zL{x:Int}(h1: -9223372036854775808<=x)(h2:x<=9223372036854775807):IntKind.i64.wrap x=x:=by
 rw [xA0];split <;>omega
theorem Mg(x:Int):I64 (IntKind.i64.wrap x):=by
 rw [xA0];unfold I64;split <;>omega
theorem A0{α:Type}{xs:List α}{i:Nat}{x:α}{l:List α}(h:xs.drop i=x::l):i<xs.length/\xs[i]? =some x/\xs.drop (i+1)=l:=by
 have h1:i<xs.length:=by
  rcases ZH i xs.length with h1|h1
  ·exact h1
  ·rw [XL h1] at h;cases h
 rw [Yz h1] at h;cases h;exact⟨h1,by simp [h1],rfl⟩
theorem An{α:Type}{xs:List α}{i:Nat}(h:xs.drop i=[]):xs.length<=i:=by simpa using h
end Go.Ab
end
section
open Go.IntKind (i64)
namespace Go.Ab
open Go.Sort
theorem OL{a b:Org}:olt a b=true↔a.cell<b.cell\/(a.cell=b.cell/\a.row<b.row):=by
 unfold olt;by_cases h1:a.cell<b.cell
 ·simp [h1]
 ·by_cases h2:a.cell=b.cell
  ·have:(a.cell==b.cell)=true:=by simpa using h2
   simp [this,h2]
  ·have:(a.cell==b.cell)=false:=by simpa using h2
   simp [h1,h2,this]
theorem Jj{a b:Org}:olt a b=false↔b.cell<a.cell\/(a.cell=b.cell/\b.row<=a.row):=by
 rw [<-Bool.not_eq_true,OL];omega
theorem BR:SWO olt where
 irrefl:=fun x=>Jj.2 (by omega)
 trans:=fun x y z h1 h2=>by rw [OL] at h1 h2 ⊢;omega
 ntrans:=fun x y z h1 h2=>by rw [Jj] at h1 h2 ⊢;omega
theorem Ji(x y:Org)(h1:olt x y=false)(h2:olt y x=false):x=y:=by
 rw [Jj] at h1 h2;cases x;cases y;simp at h1 h2 ⊢;omega
theorem xKS(N:Nat)(a b:Org):EG N a b=some (olt a b):=by
 unfold EG olt;by_cases h1:a.cell<b.cell
 ·simp [h1]
 ·cases h2:(a.cell==b.cell) <;>simp [h1]
theorem Mb{d:Array Org}{i:Nat}(hi:i<d.size):d.toList.getD (Int.toNat (i:Int)) Do=d[i]! :=by
 rw [jI,ZW];simp [hi]
theorem xKw(N:Nat){i j:Nat}{d:Array Org}(hi:i<d.size)(hj:j<d.size):z8 N (i:Int) (j:Int) d.toList=some (olt d[i]! d[j]!,d.toList):=by
 unfold z8;rw [Zx ⟨Xx _,by simpa using hi⟩,Zx ⟨Xx _,by simpa using hj⟩,xKS,Mb hi,Mb hj]
 rfl
theorem xOB(N:Nat){i j:Nat}{d:Array Org}(hi:i<d.size)(hj:j<d.size):zP N (i:Int) (j:Int) d.toList=some (swp d i j).toList:=by
 unfold zP qQ;rw [Zx ⟨Xx _,by simpa using hi,Xx _,by simpa using hj⟩]
 rfl
theorem wn{x:Int}(n:Nat)(h:x=n)(hn:n<9223372036854775808):i64.wrap x=(n:Int):=by rw [h];exact zL (by omega) (by omega)
theorem A8{β:Type}(N:Nat){x y:Int}{i j:Nat}{d:Array Org}(hx:x=i)(hy:y=j)(hi:i<d.size)(hj:j<d.size)(k:Bool×List Org->Option β):
 Option.bind (z8 N x y d.toList) k=k (olt d[i]! d[j]!,d.toList):=by rw [hx,hy,xKw N hi hj];rfl
theorem AO{β:Type}(N:Nat){x y:Int}{i j:Nat}{d:Array Org}(hx:x=i)(hy:y=j)(hi:i<d.size)(hj:j<d.size)(h2:2<=d.size)(k:List Org->Option β):
 (Option.bind (zP N x y d.toList) fun r=>if 2<=List.length d.toList then if List.length r=List.length d.toList then k r else none else none)=k (swp d i j).toList:=by
 rw [hx,hy,xOB N hi hj];show(if 2<=List.length d.toList then if List.length (swp d i j).toList=List.length d.toList then k (swp d i j).toList else none else none)=_;rw [Zx (by simpa using h2),Zx (by simp [swp])]
theorem yZ{d:Array Org}{i j:Nat}:(swp d i j).size=d.size:=by simp [swp]
theorem GC(lt:Org->Org->Bool)(a:Nat):∀(j:Nat) (d:Array Org),(insInner lt a j d).size=d.size
 |0,d=>rfl
 |j+1,d=>by
  unfold insInner;split
  ·rw [GC lt a j,yZ]
  ·rfl
theorem NP(N:Nat)(k:Int->Int->Int->List Org->Option (List Org)){a b i:Nat}(hi:i<4611686018427387904):∀(j n:Nat) (d:Array Org),j<d.size->2<=d.size->d.size<4611686018427387904->j<n->
 Ee N k n (a:Int) (b:Int) (i:Int) (j:Int) d.toList=k (a:Int) (b:Int) ((i+1:Nat):Int) (insInner olt a j d).toList
 |0,n,d,hj,h2,hs,hn=>by
  obtain⟨n,rfl⟩:∃m,n=m+1:=⟨n - 1,by omega⟩;have e:(decide (((0:Nat):Int)>(a:Int)))=false:=Zy (by omega);rw [Ee,e,jF,wn (i+1) (by omega) (by omega)]
  rfl
 |j+1,n,d,hj,h2,hs,hn=>by
  obtain⟨n,rfl⟩:∃m,n=m+1:=⟨n - 1,by omega⟩;rw [Ee,insInner];by_cases ha:j+1>a
  ·have e:(decide (((j+1:Nat):Int)>(a:Int)))=true:=Zz (by omega);rw [e,jT,wn (n:=j) (by omega) (by omega),A8 N rfl rfl hj (by omega)];dsimp only;cases hl:olt d[j+1]! d[j]! with
   |true=>
    rw [jT,AO N rfl rfl hj (by omega) h2,NP N k hi j n _ (by rw [yZ];omega) (by rw [yZ];exact h2) (by rw [yZ];exact hs) (by omega)];rw [Zx (by simp [ha])]
   |false=>
    rw [jF,wn (i+1) (by omega) (by omega),Zj (by simp)]
  ·have e:(decide (((j+1:Nat):Int)>(a:Int)))=false:=Zy (by omega);rw [e,jF,wn (i+1) (by omega) (by omega),Zj (by simp [ha])]
theorem xIT(N:Nat){a b:Nat}:∀(m i n:Nat) (d:Array Org),b - i=m->b<=d.size->2<=d.size->d.size<4611686018427387904->i<4611686018427387904->m<n->d.size<N->
 Ed N n (a:Int) (b:Int) (i:Int) d.toList=some (insOuter olt a b i d).toList:=by
 intro m
 induction m with
 |zero=>
  intro i n d hm hb h2 hs hi hn hN;obtain⟨n,rfl⟩:∃m,n=m+1:=⟨n - 1,by omega⟩;have e:(decide ((i:Int)<(b:Int)))=false:=Zy (by omega);rw [Ed,e,jF,insOuter,Zj (by omega)]
 |succ m ih=>
  intro i n d hm hb h2 hs hi hn hN;obtain⟨n,rfl⟩:∃m,n=m+1:=⟨n - 1,by omega⟩;have e:(decide ((i:Int)<(b:Int)))=true:=Zz (by omega);rw [Ed,e,jT,NP N _ hi i N d (by omega) h2 hs (by omega),insOuter,Zx (by omega)];exact ih (i+1) n _ (by omega) (by rw [GC];exact hb) (by rw [GC];exact h2) (by rw [GC];exact hs) (by omega) (by omega) (by rw [GC];exact hN)
theorem xIU(N:Nat){a b:Nat}{d:Array Org}(hab:a<=b)(hb:b<=d.size)(h2:2<=d.size)(hs:d.size<1152921504606846976)(hN:d.size<N):
 Hj N (a:Int) (b:Int) d.toList=some (insertionSort olt d a b).toList:=by
 unfold Hj insertionSort;rw [wn (a+1) (by omega) (by omega)];exact xIT N _ _ N d rfl hb h2 (by omega) (by omega) (by omega) hN
theorem xLA(N:Nat){hi first:Nat}(x:Int):∀(m root n:Nat) (d:Array Org),hi - root=m->root<=hi->first+hi<=d.size->2<=d.size->d.size<1152921504606846976->m<n->
 C3 N n (hi:Int) (first:Int) (root:Int) d.toList=some (siftDown olt hi first root d).toList/\(siftDown olt hi first root d).size=d.size:=by
 intro m
 induction m using Nat.strongRecOn with
 |_ m ih=>
  intro root n d hm hr hf h2 hs hn;obtain⟨n,rfl⟩:∃m,n=m+1:=⟨n - 1,by omega⟩;have w1:i64.wrap (i64.wrap (2*(root:Int))+1)=((2*root+1:Nat):Int):=by
   have e:i64.wrap (2*(root:Int))=((2*root:Nat):Int):=wn _ (by omega) (by omega);rw [e];exact wn _ (by omega) (by omega)
  have w2:i64.wrap (((2*root+1:Nat):Int)+1)=((2*root+2:Nat):Int):=wn _ (by omega) (by omega);rw [C3,siftDown,w1,w2];by_cases hc:2*root+1>=hi
  ·have e:(decide (((2*root+1:Nat):Int)>=(hi:Int)))=true:=Zz (by omega);rw [e,jT,dif_pos hc];exact⟨rfl,rfl⟩
  ·have e:(decide (((2*root+1:Nat):Int)>=(hi:Int)))=false:=Zy (by omega);rw [e,jF,dif_neg hc];have w3:i64.wrap ((first:Int)+((2*root+1:Nat):Int))=((first+(2*root+1):Nat):Int):=wn _ (by omega) (by omega);have w4:i64.wrap (((first+(2*root+1):Nat):Int)+1)=((first+(2*root+1)+1:Nat):Int):=wn _ (by omega) (by omega);have w5:i64.wrap ((first:Int)+(root:Int))=((first+root:Nat):Int):=wn _ (by omega) (by omega);rw [w3,w4,w5]
   have one:∀(c:Nat),c<hi->root<c->(Option.bind (z8 N ((first+root:Nat):Int) ((first+c:Nat):Int) d.toList) fun r2=>
    bif(!r2.1) then some r2.2 else
     Option.bind (zP N ((first+root:Nat):Int) ((first+c:Nat):Int) r2.2) fun r3=>
     if 2<=List.length r2.2 then
     if List.length r3=List.length r2.2 then
     (C3 N n (hi:Int) (first:Int) (c:Int) r3)
     else none
     else none)=some (if !olt d[first+root]! d[first+c]! then d else siftDown olt hi first c (swp d (first+root) (first+c))).toList/\
    (if !olt d[first+root]! d[first+c]! then d else siftDown olt hi first c (swp d (first+root) (first+c))).size=d.size:=by
    intro c hc1 hc2;rw [A8 N rfl rfl (by omega) (by omega)];dsimp only;cases hl:olt d[first+root]! d[first+c]! with
    |false=>exact⟨rfl,rfl⟩
    |true=>
     have:=ih (hi - c) (by omega) c n (swp d (first+root) (first+c)) rfl (by omega) (by rw [yZ];exact hf) (by rw [yZ];exact h2) (by rw [yZ];exact hs) (by omega);rw [jU,jF,AO N rfl rfl (by omega) (by omega) h2];rw [yZ] at this;exact this
   by_cases hd:2*root+1+1<hi
   ·have e:(decide (((2*root+2:Nat):Int)<(hi:Int)))=true:=Zz (by omega);have w6:i64.wrap ((first:Int)+((2*root+2:Nat):Int))=((first+(2*root+2):Nat):Int):=wn _ (by omega) (by omega);rw [e,jT,A8 N rfl rfl (by omega) (by omega),w6];dsimp only;cases hl:olt d[first+(2*root+1)]! d[first+(2*root+1)+1]! with
    |true=>
     rw [jT];have:=one (2*root+2) (by omega) (by omega);rw [Zx (by simp [hd]),dif_pos (by omega:2*root+2<hi)];exact this
    |false=>
     rw [jF];have:=one (2*root+1) (by omega) (by omega);rw [Zj (by simp)];exact this
   ·have e:(decide (((2*root+2:Nat):Int)<(hi:Int)))=false:=Zy (by omega);rw [e,jF,Zj (by simp [hd])];exact one (2*root+1) (by omega) (by omega)
end Go.Ab
end
section
open Go.IntKind (i64)
namespace Go.Ab
open Go.Sort
theorem Oa(N:Nat){hi first root:Nat}{d:Array Org}(hr:root<=hi)(hf:first+hi<=d.size)(h2:2<=d.size)(hs:d.size<1152921504606846976)(hN:d.size<N):
 Er N (root:Int) (hi:Int) (first:Int) d.toList=some (siftDown olt hi first root d).toList/\(siftDown olt hi first root d).size=d.size:=by
 unfold Er;exact xLA N 0 _ root N d rfl hr hf h2 hs (by omega)
theorem Mf(N:Nat){first:Nat}(z:Int):∀(k n:Nat) (d:Array Org),first+k<=d.size->2<=d.size->d.size<1152921504606846976->k<n->d.size<N->
 Ec N n (first:Int) 0 ((k:Int) - 1) d.toList=some (heapPop olt first k d).toList
 |0,n,d,hf,h2,hs,hn,hN=>by
  obtain⟨n,rfl⟩:∃m,n=m+1:=⟨n - 1,by omega⟩;have e:(decide (((0:Nat):Int) - 1>=0))=false:=Zy (by omega);rw [Ec,e,jF]
  rfl
 |k+1,n,d,hf,h2,hs,hn,hN=>by
  obtain⟨n,rfl⟩:∃m,n=m+1:=⟨n - 1,by omega⟩;have e:(decide (((k+1:Nat):Int) - 1>=0))=true:=Zz (by omega);have e1:((k+1:Nat):Int) - 1=(k:Int):=by omega
  have w:i64.wrap ((first:Int)+(k:Int))=((first+k:Nat):Int):=wn _ (by omega) (by omega);have w2:i64.wrap ((k:Int) - 1)=(k:Int) - 1:=zL (by omega) (by omega);rw [Ec,e,jT,e1,w,AO N rfl rfl (by omega) (by omega) h2,w2];obtain⟨s1,s2⟩:=Oa N (hi:=k) (first:=first) (root:=0) (d:=swp d first (first+k)) (by omega) (by rw [yZ];omega) (by rw [yZ];exact h2) (by rw [yZ];exact hs) (by rw [yZ];exact hN);have s1:Er N 0 (k:Int) (first:Int) (swp d first (first+k)).toList=_:=s1;rw [s1,heapPop];exact Mf N z k n _ (by rw [s2,yZ];omega) (by rw [s2,yZ];exact h2) (by rw [s2,yZ];exact hs) (by omega) (by rw [s2,yZ];exact hN)
theorem Me(N:Nat){first hi:Nat}:∀(k n:Nat) (d:Array Org),k<=hi+1->first+hi<=d.size->2<=d.size->d.size<1152921504606846976->k<n->d.size<N->
 Eb N n (first:Int) 0 (hi:Int) ((k:Int) - 1) d.toList=some (heapPop olt first hi (heapBuild olt hi first k d)).toList
 |0,n,d,hk,hf,h2,hs,hn,hN=>by
  obtain⟨n,rfl⟩:∃m,n=m+1:=⟨n - 1,by omega⟩;have e:(decide (((0:Nat):Int) - 1>=0))=false:=Zy (by omega);have w2:i64.wrap ((hi:Int) - 1)=(hi:Int) - 1:=zL (by omega) (by omega);rw [Eb,e,jF,w2];exact Mf N 0 hi N d hf h2 hs (by omega) hN
 |k+1,n,d,hk,hf,h2,hs,hn,hN=>by
  obtain⟨n,rfl⟩:∃m,n=m+1:=⟨n - 1,by omega⟩;have e:(decide (((k+1:Nat):Int) - 1>=0))=true:=Zz (by omega);have e1:((k+1:Nat):Int) - 1=(k:Int):=by omega
  have w2:i64.wrap ((k:Int) - 1)=(k:Int) - 1:=zL (by omega) (by omega);rw [Eb,e,jT,e1,w2];obtain⟨s1,s2⟩:=Oa N (hi:=hi) (first:=first) (root:=k) (d:=d) (by omega) hf h2 hs hN;rw [s1,heapBuild];exact Me N k n _ (by omega) (by rw [s2];exact hf) (by rw [s2];exact h2) (by rw [s2];exact hs) (by omega) (by rw [s2];exact hN)
theorem xGj(N:Nat){a b:Nat}{d:Array Org}(hab:a<b)(hb:b<=d.size)(h2:2<=d.size)(hs:d.size<1152921504606846976)(hN:d.size+1<N):
 Hi N (a:Int) (b:Int) d.toList=some (heapSort olt d a b).toList:=by
 unfold Hi heapSort;have w1:i64.wrap ((b:Int) - (a:Int))=((b - a:Nat):Int):=wn _ (by omega) (by omega);have w2:i64.wrap (((b - a:Nat):Int) - 1)=((b - a - 1:Nat):Int):=wn _ (by omega) (by omega);have w3:i64.wrap (Int.tdiv ((b - a - 1:Nat):Int) 2)=(((b - a - 1) / 2+1:Nat):Int) - 1:=by
  have:Int.tdiv ((b - a - 1:Nat):Int) 2=(((b - a - 1) / 2:Nat):Int):=rfl;rw [this,wn ((b - a - 1) / 2) rfl (by omega)];omega
 rw [w1,w2,w3];exact Me N _ N d (by omega) (by omega) h2 hs (by omega) (by omega)
theorem xLe(N:Nat):∀(m i j n:Nat) (d:Array Org),j - i<=m->i<d.size->j<d.size->2<=d.size->d.size<1152921504606846976->m<n->
 Ep N n (i:Int) (j:Int) d.toList=some (reverseLoop i j d).toList:=by
 intro m
 induction m with
 |zero=>
  intro i j n d hm hi hj h2 hs hn;obtain⟨n,rfl⟩:∃m,n=m+1:=⟨n - 1,by omega⟩;have e:(decide ((i:Int)<(j:Int)))=false:=Zy (by omega);rw [Ep,e,jF,reverseLoop,Zj (by omega)]
 |succ m ih=>
  intro i j n d hm hi hj h2 hs hn;obtain⟨n,rfl⟩:∃m,n=m+1:=⟨n - 1,by omega⟩;rw [Ep,reverseLoop];by_cases h:i<j
  ·have e:(decide ((i:Int)<(j:Int)))=true:=Zz (by omega);have w1:i64.wrap ((i:Int)+1)=((i+1:Nat):Int):=wn _ (by omega) (by omega);have w2:i64.wrap ((j:Int) - 1)=((j - 1:Nat):Int):=wn _ (by omega) (by omega);rw [e,jT,AO N rfl rfl hi hj h2,Zx h,w1,w2];exact ih (i+1) (j - 1) n _ (by omega) (by rw [yZ];omega) (by rw [yZ];omega) (by rw [yZ];exact h2) (by rw [yZ];exact hs) (by omega)
  ·have e:(decide ((i:Int)<(j:Int)))=false:=Zy (by omega);rw [e,jF,Zj h]
theorem xLf(N:Nat){a b:Nat}{d:Array Org}(hab:a<b)(hb:b<=d.size)(h2:2<=d.size)(hs:d.size<1152921504606846976)(hN:d.size<N):
 Hq N (a:Int) (b:Int) d.toList=some (reverseRange d a b).toList:=by
 unfold Hq reverseRange;have w2:i64.wrap ((b:Int) - 1)=((b - 1:Nat):Int):=wn _ (by omega) (by omega);rw [w2];exact xLe N _ a (b - 1) N d (Zg _) (by omega) (by omega) h2 hs (by omega)
theorem Fn{p:Org->Bool}{d:Array Org}{j i:Nat}(h:i<=j)(hp:p d[i]! =true):scanUp p d j i=scanUp p d j (i+1):=by
 rw [scanUp,Zx (by simp [h,hp])]
theorem CY{p:Org->Bool}{d:Array Org}{j i:Nat}(h:¬(i<=j/\p d[i]! =true)):scanUp p d j i=i:=by
 rw [scanUp,Zj (by simpa using h)]
theorem Fm{p:Org->Bool}{d:Array Org}{j i:Nat}(h:i<=j+1)(hp:p d[j+1]! =true):scanDown p d i (j+1)=scanDown p d i j:=by
 rw [scanDown,Zx (by simp [h,hp])]
theorem CX{p:Org->Bool}{d:Array Org}{j i:Nat}(h:¬(i<=j+1/\p d[j+1]! =true)):scanDown p d i (j+1)=j+1:=by
 rw [scanDown,Zj (by simpa using h)]
abbrev pUp(d:Array Org)(a:Nat):Org->Bool:=fun x=>olt x d[a]!
abbrev pDn(d:Array Org)(a:Nat):Org->Bool:=fun x=> !olt x d[a]!
theorem xLu{p:Org->Bool}{d:Array Org}:∀(m i j:Nat),j+1 - i=m->i<=j+1->i<=scanUp p d j i/\scanUp p d j i<=j+1:=by
 intro m
 induction m with
 |zero=>intro i j hm hi;rw [CY (by omega)];omega
 |succ m ih=>
  intro i j hm hi;by_cases h:i<=j/\p d[i]! =true
  ·rw [Fn h.1 h.2];have:=ih (i+1) j (by omega) (by omega);omega
  ·rw [CY h];omega
theorem Hb{p:Org->Bool}{d:Array Org}{i:Nat}(hi:0<i):∀(j:Nat),i<=j+1->i<=scanDown p d i j+1/\scanDown p d i j<=j
 |0,h=>by simp [scanDown];omega
 |j+1,h=>by
  by_cases h2:i<=j+1/\p d[j+1]! =true
  ·rw [Fm h2.1 h2.2];have:=Hb (p:=p) (d:=d) hi j (by omega);omega
  ·rw [CX h2];omega
theorem Hc{p:Org->Bool}{d:Array Org}{i:Nat}(hi:0<i):∀(j:Nat),i<=j+1->i<=scanDown p d i j->p d[scanDown p d i j]! =false
 |0,h,h3=>by simp [scanDown] at h3;omega
 |j+1,h,h3=>by
  by_cases h2:i<=j+1/\p d[j+1]! =true
  ·rw [Fm h2.1 h2.2] at h3 ⊢;exact Hc hi j (by omega) h3
  ·rw [CX h2] at h3 ⊢;cases hp:p d[j+1]! with
   |false=>rfl
   |true=>exact absurd ⟨h3,hp⟩ h2
theorem xLv{p:Org->Bool}{d:Array Org}:∀(m i j:Nat),j+1 - i=m->scanUp p d j i<=j->p d[scanUp p d j i]! =false:=by
 intro m
 induction m with
 |zero=>intro i j hm h;rw [CY (by omega)] at h;omega
 |succ m ih=>
  intro i j hm h;by_cases h2:i<=j/\p d[i]! =true
  ·rw [Fn h2.1 h2.2] at h ⊢;exact ih (i+1) j (by omega) h
  ·rw [CY h2] at h ⊢;cases hp:p d[i]! with
   |false=>rfl
   |true=>exact absurd ⟨h,hp⟩ h2
theorem OQ(N:Nat)(k:Int->Int->Int->List Org->Option (Int×Bool×List Org)){a i:Nat}:∀(j n:Nat) (d:Array Org),a<i->i<=j+1->j<d.size->2<=d.size->d.size<1152921504606846976->j<n->
 C1 N k n (a:Int) (i:Int) (j:Int) d.toList=
  (if i>scanDown (pDn d a) d i j then some (((scanDown (pDn d a) d i j:Nat):Int),false,(swp d (scanDown (pDn d a) d i j) a).toList)
   else k (a:Int) ((i+1:Nat):Int) ((scanDown (pDn d a) d i j - 1:Nat):Int) (swp d i (scanDown (pDn d a) d i j)).toList)
 |0,n,d,ha,hij,hj,h2,hs,hn=>by
  obtain⟨n,rfl⟩:∃m,n=m+1:=⟨n - 1,by omega⟩;have e:(decide ((i:Int)<=((0:Nat):Int)))=false:=Zy (by omega);have e2:(decide ((i:Int)>((0:Nat):Int)))=true:=Zz (by omega);rw [C1,e,jF,e2,jT,AO N rfl rfl hj (by omega) h2,scanDown,Zx (by omega)]
 |j+1,n,d,ha,hij,hj,h2,hs,hn=>by
  obtain⟨n,rfl⟩:∃m,n=m+1:=⟨n - 1,by omega⟩;have wi:i64.wrap ((i:Int)+1)=((i+1:Nat):Int):=wn _ (by omega) (by omega);have wj:i64.wrap (((j+1:Nat):Int) - 1)=((j:Nat):Int):=wn _ (by omega) (by omega);rw [C1,wi,wj];by_cases h:i<=j+1
  ·have e:(decide ((i:Int)<=((j+1:Nat):Int)))=true:=Zz (by omega);have e2:(decide ((i:Int)>((j+1:Nat):Int)))=false:=Zy (by omega);rw [e,jT,A8 N rfl rfl hj (by omega),e2,jF];dsimp only;cases hl:olt d[j+1]! d[a]! with
   |false=>
    rw [jV,jT,OQ N k j n d ha (by omega) (by omega) h2 hs (by omega),Fm (p:=pDn d a) h (by simp [pDn,hl])]
   |true=>
    rw [jU,jF,AO N rfl rfl (by omega) hj h2,CX (p:=pDn d a) (by simp [pDn,hl]),Zj (by omega)]
    rfl
  ·have e:(decide ((i:Int)<=((j+1:Nat):Int)))=false:=Zy (by omega);have e2:(decide ((i:Int)>((j+1:Nat):Int)))=true:=Zz (by omega);rw [e,jF,e2,jT,AO N rfl rfl hj (by omega) h2,CX (p:=pDn d a) (by omega),Zx (by omega)]
theorem xKV(N:Nat){a:Nat}:∀(m i j n:Nat) (d:Array Org),j+1 - i=m->a<i->i<=j+1->j<d.size->2<=d.size->d.size<1152921504606846976->m<n->d.size<N->
 BT N n (a:Int) (i:Int) (j:Int) d.toList=some (((partLoop olt a i j d).1:Int),false,(swp (partLoop olt a i j d).2 (partLoop olt a i j d).1 a).toList):=by
 intro m
 induction m using Nat.strongRecOn with
 |_ m ih=>
  intro i j n d hm ha hij hj h2 hs hn hN;obtain⟨n,rfl⟩:∃m,n=m+1:=⟨n - 1,by omega⟩;have wi:i64.wrap ((i:Int)+1)=((i+1:Nat):Int):=wn _ (by omega) (by omega);rw [BT,wi]
  have stop:∀(hc:¬(i<=j/\pUp d a d[i]! =true)),C1 N (fun z0 z1 z2 z3=>(BT N n z0 z1 z2 z3)) N (a:Int) (i:Int) (j:Int) d.toList=
   some (((partLoop olt a i j d).1:Int),false,(swp (partLoop olt a i j d).2 (partLoop olt a i j d).1 a).toList):=by
   intro hc;rw [OQ N _ j N d ha hij hj h2 hs (by omega),partLoop_eq,CY (p:=pUp d a) hc];have hb:=Hb (p:=pDn d a) (d:=d) (by omega:0<i) j hij;split
   ·rfl
   ·rename_i hg;have hne:i≠scanDown (pDn d a) d i j:=by
     intro e;have h1:=Hc (p:=pDn d a) (d:=d) (by omega:0<i) j hij (by omega);rw [<-e] at h1;have h2:pUp d a d[i]! =true:=by simpa [pDn,pUp] using h1
     exact hc ⟨by omega,h2⟩
    exact ih (scanDown (pDn d a) d i j - 1+1 - (i+1)) (by omega) (i+1) (scanDown (pDn d a) d i j - 1) n _ rfl (by omega) (by omega) (by rw [yZ];omega) (by rw [yZ];exact h2) (by rw [yZ];exact hs) (by omega) (by rw [yZ];exact hN)
  by_cases h:i<=j
  ·have e:(decide ((i:Int)<=(j:Int)))=true:=Zz (by omega);rw [e,jT,A8 N rfl rfl (by omega) (by omega)];dsimp only;cases hl:olt d[i]! d[a]! with
   |true=>
    rw [jT,ih (m - 1) (by omega) (i+1) j n d (by omega) (by omega) (by omega) hj h2 hs (by omega) hN];have:partLoop olt a i j d=partLoop olt a (i+1) j d:=by
     rw [partLoop_eq,partLoop_eq (i:=i+1),Fn (p:=pUp d a) h (by simp [pUp,hl])]
    rw [this]
   |false=>rw [jF];exact stop (by simp [pUp,hl])
  ·have e:(decide ((i:Int)<=(j:Int)))=false:=Zy (by omega);rw [e,jF];exact stop (by omega)
theorem OR(N:Nat){a i:Nat}:∀(j n:Nat) (d:Array Org),a<i->i<=j+1->j<d.size->2<=d.size->d.size<1152921504606846976->j<n->
 C2 N n (a:Int) (i:Int) (j:Int) d.toList=
  (if i>scanDown (pDn d a) d i j then some (((scanDown (pDn d a) d i j:Nat):Int),true,(swp d (scanDown (pDn d a) d i j) a).toList)
   else BT N N (a:Int) ((i+1:Nat):Int) ((scanDown (pDn d a) d i j - 1:Nat):Int) (swp d i (scanDown (pDn d a) d i j)).toList)
 |0,n,d,ha,hij,hj,h2,hs,hn=>by
  obtain⟨n,rfl⟩:∃m,n=m+1:=⟨n - 1,by omega⟩;have e:(decide ((i:Int)<=((0:Nat):Int)))=false:=Zy (by omega);have e2:(decide ((i:Int)>((0:Nat):Int)))=true:=Zz (by omega);rw [C2,e,jF,e2,jT,AO N rfl rfl hj (by omega) h2,scanDown,Zx (by omega)]
 |j+1,n,d,ha,hij,hj,h2,hs,hn=>by
  obtain⟨n,rfl⟩:∃m,n=m+1:=⟨n - 1,by omega⟩;have wi:i64.wrap ((i:Int)+1)=((i+1:Nat):Int):=wn _ (by omega) (by omega);have wj:i64.wrap (((j+1:Nat):Int) - 1)=((j:Nat):Int):=wn _ (by omega) (by omega);rw [C2,wi,wj];by_cases h:i<=j+1
  ·have e:(decide ((i:Int)<=((j+1:Nat):Int)))=true:=Zz (by omega);have e2:(decide ((i:Int)>((j+1:Nat):Int)))=false:=Zy (by omega);rw [e,jT,A8 N rfl rfl hj (by omega),e2,jF];dsimp only;cases hl:olt d[j+1]! d[a]! with
   |false=>
    rw [jV,jT,OR N j n d ha (by omega) (by omega) h2 hs (by omega),Fm (p:=pDn d a) h (by simp [pDn,hl])]
   |true=>
    rw [jU,jF,AO N rfl rfl (by omega) hj h2,CX (p:=pDn d a) (by simp [pDn,hl]),Zj (by omega)]
    rfl
  ·have e:(decide ((i:Int)<=((j+1:Nat):Int)))=false:=Zy (by omega);have e2:(decide ((i:Int)>((j+1:Nat):Int)))=true:=Zz (by omega);rw [e,jF,e2,jT,AO N rfl rfl hj (by omega) h2,CX (p:=pDn d a) (by omega),Zx (by omega)]
theorem xKW(N:Nat){a j:Nat}:∀(m i n:Nat) (d:Array Org),j+1 - i=m->a<i->i<=j+1->j<d.size->2<=d.size->d.size<1152921504606846976->m<n->d.size<N->
 En N n (a:Int) (i:Int) (j:Int) d.toList=C2 N N (a:Int) ((scanUp (pUp d a) d j i:Nat):Int) (j:Int) d.toList:=by
 intro m
 induction m with
 |zero=>
  intro i n d hm ha hij hj h2 hs hn hN;obtain⟨n,rfl⟩:∃m,n=m+1:=⟨n - 1,by omega⟩;have e:(decide ((i:Int)<=(j:Int)))=false:=Zy (by omega);rw [En,e,jF,CY (by omega)]
 |succ m ih=>
  intro i n d hm ha hij hj h2 hs hn hN;obtain⟨n,rfl⟩:∃m,n=m+1:=⟨n - 1,by omega⟩;have wi:i64.wrap ((i:Int)+1)=((i+1:Nat):Int):=wn _ (by omega) (by omega);have e:(decide ((i:Int)<=(j:Int)))=true:=Zz (by omega);rw [En,wi,e,jT,A8 N rfl rfl (by omega) (by omega)];dsimp only;cases hl:olt d[i]! d[a]! with
  |true=>rw [jT,ih (i+1) n d (by omega) (by omega) (by omega) hj h2 hs (by omega) hN,Fn (p:=pUp d a) (i:=i) (j:=j) (by omega) (by simp [pUp,hl])]
  |false=>rw [jF,CY (p:=pUp d a) (by simp [pUp,hl])]
theorem xKX(N:Nat){a b pivot:Nat}{d:Array Org}(hp1:a<=pivot)(hp2:pivot<b)(hb:b<=d.size)(hab:a+1<b)(h2:2<=d.size)(hs:d.size<1152921504606846976)(hN:d.size<N):
 Hp N (a:Int) (b:Int) (pivot:Int) d.toList=some (((partition olt d a b pivot).1:Int),(partition olt d a b pivot).2.1,(partition olt d a b pivot).2.2.toList):=by
 have wa:i64.wrap ((a:Int)+1)=((a+1:Nat):Int):=wn _ (by omega) (by omega);have wb:i64.wrap ((b:Int) - 1)=((b - 1:Nat):Int):=wn _ (by omega) (by omega);have hs1:(swp d a pivot).size=d.size:=yZ;unfold Hp partition;rw [AO N rfl rfl (by omega) (by omega) h2,wa,wb];generalize swp d a pivot=d1 at hs1;have hu:=xLu (p:=pUp d1 a) (d:=d1) _ (a+1) (b - 1) rfl (by omega);rw [xKW N _ (a+1) N d1 rfl (by omega) (by omega) (by omega) (by omega) (by omega) (by omega) (by omega),OR N (b - 1) N d1 (by omega) (by omega) (by omega) (by omega) (by omega) (by omega)];have hd:=Hb (p:=pDn d1 a) (d:=d1) (i:=scanUp (pUp d1 a) d1 (b - 1) (a+1)) (by omega) (b - 1) (by omega);dsimp only;by_cases hc:scanUp (pUp d1 a) d1 (b - 1) (a+1)>scanDown (pDn d1 a) d1 (scanUp (pUp d1 a) d1 (b - 1) (a+1)) (b - 1)
 ·rw [Zx hc,Zx hc]
 ·have hne:scanUp (pUp d1 a) d1 (b - 1) (a+1)≠scanDown (pDn d1 a) d1 (scanUp (pUp d1 a) d1 (b - 1) (a+1)) (b - 1):=by
   intro e;have h1:=Hc (p:=pDn d1 a) (d:=d1) (i:=scanUp (pUp d1 a) d1 (b - 1) (a+1)) (by omega) (b - 1) (by omega) (by omega);rw [<-e] at h1;have h2:=xLv (p:=pUp d1 a) (d:=d1) _ (a+1) (b - 1) rfl (by omega);simp only [pDn,pUp] at h1 h2;rw [h2] at h1;cases h1
  rw [Zj hc,Zj hc];exact xKV N _ _ _ N _ rfl (by omega) (by omega) (by rw [yZ];omega) (by rw [yZ];omega) (by rw [yZ];omega) (by omega) (by rw [yZ];omega)
end Go.Ab
end
