/- The statement FnNoEffects holds: plain functions, certificates, laws. Conditions: none. -/
import Derived.LaidMore
import Derived.Lay
import Derived.Lib.LaidTab
import Derived.Maps.AppendAt
import Derived.Maps.OwnSet
import Derived.OpenVars
import Derived.OrdersHeld
import Derived.SevenTiedAt
import Derived.Shelf.GgSortFunc.Slice
import Derived.Shelf.GgSortFunc.Tiny
import Derived.Shelf.Slices.In.SortNone2
import Derived.Shelf.Small.Bits
import Derived.Shelf.Small.Strs
import Derived.Shelf.Sort.Plain
import Derived.Shelf.Strconv.Itoa3
import Derived.Shelf.Strings.OnBuilder
import Derived.Shelf.Strings.Prefix
import Derived.Shelf.Strings.Search1
import Derived.Shelf.Strings.Split
import Derived.Sort.AssemblyPlain
import Derived.Stop.Joined
import Derived.Stop.LaidErr
import Derived.Test.YtmkdoadmcaagiaaGreatDoorCards
import Derived.Test.YtmkdoadmcaagiaaGreatDoorChecked
import Derived.Test.YtmkdoadmcaagiaaGreatDoorProg
import Derived.Test.YtmkdoadmcaagiaaGreatDoorRows
import Derived.Test.YtmkdoadmcaagiaaGreatDoorTie
import Derived.WalkKit
import Derived.Test.YtmkdoadmcaagiaaGreatDoorL1
set_option linter.all false
open Go.IntKind (i64)
section
namespace Go.Ab
abbrev Dx:Exp:=Ty.exp.dflt
abbrev Ds:Str:=Ty.str.dflt
abbrev Do:Org:=Ty.org.dflt
abbrev Di:Int:=Ty.int.dflt
abbrev Dv:Val:=Ty.val.dflt
abbrev Rc(f:Fl)(e:Rea):List CV:=[.int .i64 (Rea.kind e),.int .i64 (Rea.n e),.int .i64 (Rea.time e),.str (Rea.text e),.int .i64 (Val.kind (Rea.result e)),.int .i64 (Val.n (Rea.result e)),.int .i64 (Val.step (Rea.result e)),.str (Val.text (Rea.result e)),.sl f .val (Val.list (Rea.result e)),.sl f .str (Val.columns (Rea.result e)),.sl f .row (Val.rows (Rea.result e))]
abbrev Wc(f:Fl)(e:Wld):List CV:=[.int .i64 (Wld.clock e),.int .i64 (Wld.seed e),.sl f .fil (Wld.files e)]
abbrev Ex(f:Fl)(e:Exp):List CV:=[.int .i64 (Exp.kind e),.int .i64 (Exp.n e),.str (Exp.text e),.sl f .exp (Exp.args e)]
abbrev Cu(f:Fl)(e:Cur):List CV:=[.sl f .byte (Cur.b e),.int .i64 (Cur.i e),.int .i64 (Cur.h e)]
abbrev Va(f:Fl)(e:Val):List CV:=[.int .i64 (Val.kind e),.int .i64 (Val.n e),.int .i64 (Val.step e),.str (Val.text e),.sl f .val (Val.list e),.sl f .str (Val.columns e),.sl f .row (Val.rows e)]
abbrev vI(x:Int):AV:= .v false [.int .i64 x]
abbrev vP(s:Nat):AV:= .v false [.ptr s 0]
abbrev vB(x:Bool):AV:= .v false [.bool x]
abbrev vTq(x:Str):AV:= .v false [.str x]
abbrev vS(f:Fl)(T:Ty)(x:List T.den):AV:= .v false [.sl f T x]
abbrev vV(f:Fl)(x:Val):AV:= .v true (Va f x)
abbrev cO(a:AV):CallO:=⟨a,[],[]⟩
abbrev aI(x:Int):Arg:= .val (vI x)
abbrev aB(x:Bool):Arg:= .val (vB x)
abbrev aT(x:Str):Arg:= .val (vTq x)
abbrev aS(f:Fl)(T:Ty)(x:List T.den):Arg:= .val (vS f T x)
abbrev aV(f:Fl)(x:Val):Arg:= .val (vV f x)
structure Mch where
 tape:List Rea
 w:Wld
 cell:Int
 version:Int
 reads:List Rea
 steps:Int
 over:Bool
structure Outc where
 value:Val
 reads:List Rea
 steps:Int
abbrev Mc(f:Fl)(e:Mch):List CV:=[.sl .ro .rea (Mch.tape e),.int .i64 (Wld.clock (Mch.w e)),.int .i64 (Wld.seed (Mch.w e)),.sl .ro .fil (Wld.files (Mch.w e)),.int .i64 (Mch.cell e),.int .i64 (Mch.version e),.sl f .rea (Mch.reads e),.int .i64 (Mch.steps e),.bool (Mch.over e)]
def xID(r:Int×Int):CallO:=⟨.v false [.int .u64 r.1],[[.int .u64 r.2]],[]⟩
def M6(N:Nat)(a0:Int):Option (Int×Int):=some ((zP .u64 (zP .u64 (zP .u64 a0 (IntKind.u64.wrap (a0*2 ^ (Int.toNat 13)))) (Int.fdiv (zP .u64 a0 (IntKind.u64.wrap (a0*2 ^ (Int.toNat 13)))) ((2:Int) ^ (Int.toNat 7)))) (IntKind.u64.wrap ((zP .u64 (zP .u64 a0 (IntKind.u64.wrap (a0*2 ^ (Int.toNat 13)))) (Int.fdiv (zP .u64 a0 (IntKind.u64.wrap (a0*2 ^ (Int.toNat 13)))) ((2:Int) ^ (Int.toNat 7))))*2 ^ (Int.toNat 17)))),(zP .u64 (zP .u64 (zP .u64 a0 (IntKind.u64.wrap (a0*2 ^ (Int.toNat 13)))) (Int.fdiv (zP .u64 a0 (IntKind.u64.wrap (a0*2 ^ (Int.toNat 13)))) ((2:Int) ^ (Int.toNat 7)))) (IntKind.u64.wrap ((zP .u64 (zP .u64 a0 (IntKind.u64.wrap (a0*2 ^ (Int.toNat 13)))) (Int.fdiv (zP .u64 a0 (IntKind.u64.wrap (a0*2 ^ (Int.toNat 13)))) ((2:Int) ^ (Int.toNat 7))))*2 ^ (Int.toNat 17)))))
def A9(r:Int):CallO:=cO (vI r)
def O3(N:Nat)(a0:Int):Option Int:=nU a0
def xIu(r:Int):CallO:=⟨.v false [.int .u64 r],[],[]⟩
def M0(N:Nat)(a0:Int):Option Int:=(O3 N (IntKind.u64.wrap (a0))).bind fun r1=>if(0:Int)<=(IntKind.u64.wrap (r1))/\(IntKind.u64.wrap (r1))<64 then some (IntKind.u64.wrap (1*2 ^ (Int.toNat (IntKind.u64.wrap (r1))))) else none
def xGj(r:(List Org)):CallO:=⟨.tup [],[],[.sl (.lnt 0) .org r]⟩
def Av(N:Nat)(a0 a1:Int)(a2:List Org):Option (List Org):=rH a0 a1 a2
def Ic(a0 a1:Int)(a2:List Org):List Arg:=[.val (.v true [.clo 270 [1000003],.swp 297 0 (.pointer (some ⟨3,179,none⟩)) 1000003]),.val (vI a0),.val (vI a1),.gbox [.sl (.lnt 0) .org a2]]
def Az(r:(List Org)):CallO:=⟨.tup [],[[.sl (.lnt 0) .org r]],[]⟩
def Ie(N:Nat):Nat->Int->Int->List Org->Option (List Org)
 |0,_,_,_=>none
 |n+1,x6,x7,g003=>cond (decide (x6<x7)) ((Av N x6 x7 g003).bind fun r1=>if 2<=g003.length then if r1.length=g003.length then(Ie N n (i64.wrap (x6+1)) (i64.wrap (x7 - 1)) r1) else none else none) (some g003)
def M5(N:Nat)(a0 a1:Int)(a2:List Org):Option (List Org):=Ie N N a0 (i64.wrap (a1 - 1)) a2
def Gm(N:Nat):Nat->Int->Int->Int->Int->Int->List Org->Option (List Org)
 |0,_,_,_,_,_,_=>none
 |n+1,x1,x6,x8,x9,b7,g003=>cond (decide (x9<=(i64.wrap ((i64.wrap (x1+(i64.wrap ((i64.wrap (Int.tdiv x6 4))*2))))+1)))) ((M6 N b7).bind fun r1=>cond (decide (((i64.wrap (sI .u64 r1.1 (IntKind.u64.wrap (x8 - 1)))):Int)>=x6)) ((Av N x9 (i64.wrap (x1+(i64.wrap ((i64.wrap (sI .u64 r1.1 (IntKind.u64.wrap (x8 - 1)))) - x6)))) g003).bind fun r2=>if 2<=g003.length then if r2.length=g003.length then(Gm N n x1 x6 x8 (i64.wrap (x9+1)) r1.2 r2) else none else none) ((Av N x9 (i64.wrap (x1+(i64.wrap (sI .u64 r1.1 (IntKind.u64.wrap (x8 - 1)))))) g003).bind fun r2=>if 2<=g003.length then if r2.length=g003.length then(Gm N n x1 x6 x8 (i64.wrap (x9+1)) r1.2 r2) else none else none)) (some g003)
def MW(N:Nat)(a0 a1:Int)(a2:List Org):Option (List Org):=cond (decide ((i64.wrap (a1 - a0))>=8)) ((M0 N (i64.wrap (a1 - a0))).bind fun r1=>(Gm N N a0 (i64.wrap (a1 - a0)) r1 (i64.wrap ((i64.wrap (a0+(i64.wrap ((i64.wrap (Int.tdiv (i64.wrap (a1 - a0)) 4))*2)))) - 1)) (IntKind.u64.wrap (i64.wrap (a1 - a0))) a2)) (some a2)
def TZ(a0 a1:Org):List Arg:=[.val (.v true [.int .i64 a0.cell,.int .i64 a0.row]),.val (.v true [.int .i64 a1.cell,.int .i64 a1.row])]
def AN(r:Bool):CallO:=cO (vB r)
def IF(N:Nat)(a0 a1:Org):Option Bool:=cond (decide (a0.cell<a1.cell)) (some true) (cond (a0.cell==a1.cell) (some (decide (a0.row<a1.row))) (some false))
def C6(r:Bool×(List Org)):CallO:=⟨(vB r.1),[[.sl (.lnt 0) .org r.2]],[]⟩
def BR(N:Nat)(a0 a1:Int)(a2:List Org):Option (Bool×(List Org)):=if(0:Int)<=a0/\a0<a2.length then if(0:Int)<=a1/\a1<a2.length then(IF N (a2.getD a0.toNat Do) (a2.getD a1.toNat Do)).bind fun r1=>some (r1,a2) else none else none
def I9(a0 a1 a2:Int)(a3:List Org):List Arg:=[.val (.v true [.clo 270 [1000004],.swp 297 0 (.pointer (some ⟨3,179,none⟩)) 1000004]),.val (vI a0),.val (vI a1),.val (vI a2),.gbox [.sl (.lnt 0) .org a3]]
def Ib(r:Int×Bool×(List Org)):CallO:=⟨.tup [(false,[.int .i64 r.1]),(false,[.bool r.2.1])],[[.sl (.lnt 0) .org r.2.2]],[]⟩
def FU(N:Nat)(k13:Int->Int->Int->List Org->Option (Int×Bool×(List Org))):Nat->Int->Int->Int->List Org->Option (Int×Bool×(List Org))
 |0,_,_,_,_=>none
 |n+1,x1,x10,x11,g004=>cond (decide (x10<=x11)) ((BR N x11 x1 g004).bind fun r1=>cond (!r1.1) (FU N k13 n x1 x10 (i64.wrap (x11 - 1)) r1.2) (cond (decide (x10>x11)) ((Av N x11 x1 r1.2).bind fun r2=>if 2<=r1.2.length then if r2.length=r1.2.length then some (x11,false,r2) else none else none) ((Av N x10 x11 r1.2).bind fun r2=>if 2<=r1.2.length then if r2.length=r1.2.length then(k13 x1 (i64.wrap (x10+1)) (i64.wrap (x11 - 1)) r2) else none else none))) (cond (decide (x10>x11)) ((Av N x11 x1 g004).bind fun r1=>if 2<=g004.length then if r1.length=g004.length then some (x11,false,r1) else none else none) ((Av N x10 x11 g004).bind fun r1=>if 2<=g004.length then if r1.length=g004.length then(k13 x1 (i64.wrap (x10+1)) (i64.wrap (x11 - 1)) r1) else none else none))
def D9(N:Nat):Nat->Int->Int->Int->List Org->Option (Int×Bool×(List Org))
 |0,_,_,_,_=>none
 |n+1,x1,x10,x11,g004=>cond (decide (x10<=x11)) ((BR N x10 x1 g004).bind fun r1=>cond r1.1 (D9 N n x1 (i64.wrap (x10+1)) x11 r1.2) (FU N (fun z0 z1 z2 z3=>(D9 N n z0 z1 z2 z3)) N x1 x10 x11 r1.2)) (FU N (fun z0 z1 z2 z3=>(D9 N n z0 z1 z2 z3)) N x1 x10 x11 g004)
def FV(N:Nat):Nat->Int->Int->Int->List Org->Option (Int×Bool×(List Org))
 |0,_,_,_,_=>none
 |n+1,x1,x10,x11,g004=>cond (decide (x10<=x11)) ((BR N x11 x1 g004).bind fun r1=>cond (!r1.1) (FV N n x1 x10 (i64.wrap (x11 - 1)) r1.2) (cond (decide (x10>x11)) ((Av N x11 x1 r1.2).bind fun r2=>if 2<=r1.2.length then if r2.length=r1.2.length then some (x11,true,r2) else none else none) ((Av N x10 x11 r1.2).bind fun r2=>if 2<=r1.2.length then if r2.length=r1.2.length then(D9 N N x1 (i64.wrap (x10+1)) (i64.wrap (x11 - 1)) r2) else none else none))) (cond (decide (x10>x11)) ((Av N x11 x1 g004).bind fun r1=>if 2<=g004.length then if r1.length=g004.length then some (x11,true,r1) else none else none) ((Av N x10 x11 g004).bind fun r1=>if 2<=g004.length then if r1.length=g004.length then(D9 N N x1 (i64.wrap (x10+1)) (i64.wrap (x11 - 1)) r1) else none else none))
def Ia(N:Nat):Nat->Int->Int->Int->List Org->Option (Int×Bool×(List Org))
 |0,_,_,_,_=>none
 |n+1,x1,x10,x11,g004=>cond (decide (x10<=x11)) ((BR N x10 x1 g004).bind fun r1=>cond r1.1 (Ia N n x1 (i64.wrap (x10+1)) x11 r1.2) (FV N N x1 x10 x11 r1.2)) (FV N N x1 x10 x11 g004)
def M4(N:Nat)(a0 a1 a2:Int)(a3:List Org):Option (Int×Bool×(List Org)):=(Av N a0 a2 a3).bind fun r1=>if 2<=a3.length then if r1.length=a3.length then(Ia N N a0 (i64.wrap (a0+1)) (i64.wrap (a1 - 1)) r1) else none else none
def M3(r:Int×(List Org)):CallO:=⟨(vI r.1),[[.sl (.lnt 0) .org r.2]],[]⟩
def FT(N:Nat)(k3:Int->Int->Int->List Org->Option (Int×(List Org))):Nat->Int->Int->Int->List Org->Option (Int×(List Org))
 |0,_,_,_,_=>none
 |n+1,x1,x9,x10,g004=>cond (decide (x9<=x10)) ((BR N x1 x10 g004).bind fun r1=>cond r1.1 (FT N k3 n x1 x9 (i64.wrap (x10 - 1)) r1.2) (cond (decide (x9>x10)) (some (x9,r1.2)) ((Av N x9 x10 r1.2).bind fun r2=>if 2<=r1.2.length then if r2.length=r1.2.length then(k3 x1 (i64.wrap (x9+1)) (i64.wrap (x10 - 1)) r2) else none else none))) (cond (decide (x9>x10)) (some (x9,g004)) ((Av N x9 x10 g004).bind fun r1=>if 2<=g004.length then if r1.length=g004.length then(k3 x1 (i64.wrap (x9+1)) (i64.wrap (x10 - 1)) r1) else none else none))
def FSq(N:Nat):Nat->Int->Int->Int->List Org->Option (Int×(List Org))
 |0,_,_,_,_=>none
 |n+1,x1,x9,x10,g004=>cond (decide (x9<=x10)) ((BR N x1 x9 g004).bind fun r1=>cond (!r1.1) (FSq N n x1 (i64.wrap (x9+1)) x10 r1.2) (FT N (fun z0 z1 z2 z3=>(FSq N n z0 z1 z2 z3)) N x1 x9 x10 r1.2)) (FT N (fun z0 z1 z2 z3=>(FSq N n z0 z1 z2 z3)) N x1 x9 x10 g004)
def M2(N:Nat)(a0 a1 a2:Int)(a3:List Org):Option (Int×(List Org)):=(Av N a0 a2 a3).bind fun r1=>if 2<=a3.length then if r1.length=a3.length then(FSq N N a0 (i64.wrap (a0+1)) (i64.wrap (a1 - 1)) r1) else none else none
def I6(N:Nat)(k3:Int->Int->Int->Int->List Org->Option (Bool×(List Org))):Nat->Int->Int->Int->Int->Int->List Org->Option (Bool×(List Org))
 |0,_,_,_,_,_,_=>none
 |n+1,x1,x2,x7,x8,x10,g003=>cond (decide (x10<x2)) ((BR N x10 (i64.wrap (x10 - 1)) g003).bind fun r1=>cond (!r1.1) (k3 x1 x2 x7 (i64.wrap (x8+1)) r1.2) ((Av N x10 (i64.wrap (x10 - 1)) r1.2).bind fun r2=>if 2<=r1.2.length then if r2.length=r1.2.length then(I6 N k3 n x1 x2 x7 x8 (i64.wrap (x10+1)) r2) else none else none)) (k3 x1 x2 x7 (i64.wrap (x8+1)) g003)
def Gn(N:Nat)(k3:Int->Int->Int->Int->List Org->Option (Bool×(List Org)))(x1 x2 x7 x8:Int)(g003:List Org):Option (Bool×(List Org)):=cond (decide ((i64.wrap (x2 - x7))>=2)) (I6 N k3 N x1 x2 x7 x8 (i64.wrap (x7+1)) g003) (k3 x1 x2 x7 (i64.wrap (x8+1)) g003)
def I5(N:Nat)(k3:Int->Int->Int->Int->List Org->Option (Bool×(List Org))):Nat->Int->Int->Int->Int->Int->List Org->Option (Bool×(List Org))
 |0,_,_,_,_,_,_=>none
 |n+1,x1,x2,x7,x8,x9,g003=>cond (decide (x9>=1)) ((BR N x9 (i64.wrap (x9 - 1)) g003).bind fun r1=>cond (!r1.1) (Gn N k3 x1 x2 x7 x8 r1.2) ((Av N x9 (i64.wrap (x9 - 1)) r1.2).bind fun r2=>if 2<=r1.2.length then if r2.length=r1.2.length then(I5 N k3 n x1 x2 x7 x8 (i64.wrap (x9 - 1)) r2) else none else none)) (Gn N k3 x1 x2 x7 x8 g003)
def I8(N:Nat)(k3:Int->Int->Int->Int->List Org->Option (Bool×(List Org)))(x1 x2 x7 x8:Int)(g003:List Org):Option (Bool×(List Org)):=cond (x7==x2) (some (true,g003)) (cond (decide ((i64.wrap (x2 - x1))<50)) (some (false,g003)) ((Av N x7 (i64.wrap (x7 - 1)) g003).bind fun r1=>if 2<=g003.length then if r1.length=g003.length then cond (decide ((i64.wrap (x7 - x1))>=2)) (I5 N k3 N x1 x2 x7 x8 (i64.wrap (x7 - 1)) r1) (Gn N k3 x1 x2 x7 x8 r1) else none else none))
def I7(N:Nat)(k3:Int->Int->Int->Int->List Org->Option (Bool×(List Org))):Nat->Int->Int->Int->Int->List Org->Option (Bool×(List Org))
 |0,_,_,_,_,_=>none
 |n+1,x1,x2,x7,x8,g003=>cond (decide (x7<x2)) ((BR N x7 (i64.wrap (x7 - 1)) g003).bind fun r1=>cond (!r1.1) (I7 N k3 n x1 x2 (i64.wrap (x7+1)) x8 r1.2) (I8 N k3 x1 x2 x7 x8 r1.2)) (I8 N k3 x1 x2 x7 x8 g003)
def Gp(N:Nat):Nat->Int->Int->Int->Int->List Org->Option (Bool×(List Org))
 |0,_,_,_,_,_=>none
 |n+1,x1,x2,x7,x8,g003=>cond (decide (x8<5)) (I7 N (fun z0 z1 z2 z3 z4=>(Gp N n z0 z1 z2 z3 z4)) N x1 x2 x7 x8 g003) (some (false,g003))
def M1(N:Nat)(a0 a1:Int)(a2:List Org):Option (Bool×(List Org)):=Gp N N a0 a1 (i64.wrap (a0+1)) 0 a2
def xIv(r:Int×Int×Int×(List Org)):CallO:=⟨.tup [(false,[.int .i64 r.1]),(false,[.int .i64 r.2.1])],[[.int .i64 r.2.2.1],[.sl (.lnt 0) .org r.2.2.2]],[]⟩
def I4(N:Nat)(a0 a1 a2:Int)(a3:List Org):Option (Int×Int×Int×(List Org)):=(BR N a1 a0 a3).bind fun r1=>cond r1.1 (some (a1,a0,(i64.wrap (a2+1)),r1.2)) (some (a0,a1,a2,r1.2))
def Uj(r:Int×Int×(List Org)):CallO:=⟨(vI r.1),[[.int .i64 r.2.1],[.sl (.lnt 0) .org r.2.2]],[]⟩
def I3(N:Nat)(a0 a1 a2 a3:Int)(a4:List Org):Option (Int×Int×(List Org)):=(I4 N a0 a1 a3 a4).bind fun r1=>(I4 N r1.2.1 a2 r1.2.2.1 r1.2.2.2).bind fun r2=>(I4 N r1.1 r2.1 r2.2.2.1 r2.2.2.2).bind fun r3=>some (r3.2.1,r3.2.2.1,r3.2.2.2)
def I2(N:Nat)(a0 a1:Int)(a2:List Org):Option (Int×Int×(List Org)):=(I3 N (i64.wrap (a0 - 1)) a0 (i64.wrap (a0+1)) a1 a2).bind fun r1=>some (r1.1,r1.2.1,r1.2.2)
def xIq(r:Int×Int×(List Org)):CallO:=⟨.tup [(false,[.int .i64 r.1]),(false,[.int .i64 r.2.1])],[[.sl (.lnt 0) .org r.2.2]],[]⟩
def MX(N:Nat)(a0 a1:Int)(a2:List Org):Option (Int×Int×(List Org)):=cond (decide ((i64.wrap (a1 - a0))>=8)) (cond (decide ((i64.wrap (a1 - a0))>=50)) ((I2 N (i64.wrap (a0+(i64.wrap ((i64.wrap (Int.tdiv (i64.wrap (a1 - a0)) 4))*1)))) 0 a2).bind fun r1=>(I2 N (i64.wrap (a0+(i64.wrap ((i64.wrap (Int.tdiv (i64.wrap (a1 - a0)) 4))*2)))) r1.2.1 r1.2.2).bind fun r2=>(I2 N (i64.wrap (a0+(i64.wrap ((i64.wrap (Int.tdiv (i64.wrap (a1 - a0)) 4))*3)))) r2.2.1 r2.2.2).bind fun r3=>(I3 N r1.1 r2.1 r3.1 r3.2.1 r3.2.2).bind fun r4=>cond (r4.2.1==0) (some (r4.1,1,r4.2.2)) (cond (r4.2.1==12) (some (r4.1,2,r4.2.2)) (some (r4.1,0,r4.2.2)))) ((I3 N (i64.wrap (a0+(i64.wrap ((i64.wrap (Int.tdiv (i64.wrap (a1 - a0)) 4))*1)))) (i64.wrap (a0+(i64.wrap ((i64.wrap (Int.tdiv (i64.wrap (a1 - a0)) 4))*2)))) (i64.wrap (a0+(i64.wrap ((i64.wrap (Int.tdiv (i64.wrap (a1 - a0)) 4))*3)))) 0 a2).bind fun r1=>cond (r1.2.1==0) (some (r1.1,1,r1.2.2)) (cond (r1.2.1==12) (some (r1.1,2,r1.2.2)) (some (r1.1,0,r1.2.2))))) (cond ((0:Int)==0) (some ((i64.wrap (a0+(i64.wrap ((i64.wrap (Int.tdiv (i64.wrap (a1 - a0)) 4))*2)))),1,a2)) (cond ((0:Int)==12) (some ((i64.wrap (a0+(i64.wrap ((i64.wrap (Int.tdiv (i64.wrap (a1 - a0)) 4))*2)))),2,a2)) (some ((i64.wrap (a0+(i64.wrap ((i64.wrap (Int.tdiv (i64.wrap (a1 - a0)) 4))*2)))),0,a2))))
def FW(N:Nat):Nat->Int->Int->Int->List Org->Option (List Org)
 |0,_,_,_,_=>none
 |n+1,x2,x3,x8,g004=>cond (decide (((i64.wrap ((i64.wrap (2*x8))+1)):Int)>=x2)) (some g004) (cond (decide (((i64.wrap ((i64.wrap ((i64.wrap (2*x8))+1))+1)):Int)<x2)) ((BR N (i64.wrap (x3+(i64.wrap ((i64.wrap (2*x8))+1)))) (i64.wrap ((i64.wrap (x3+(i64.wrap ((i64.wrap (2*x8))+1))))+1)) g004).bind fun r1=>cond r1.1 ((BR N (i64.wrap (x3+x8)) (i64.wrap (x3+(i64.wrap ((i64.wrap ((i64.wrap (2*x8))+1))+1)))) r1.2).bind fun r2=>cond (!r2.1) (some r2.2) ((Av N (i64.wrap (x3+x8)) (i64.wrap (x3+(i64.wrap ((i64.wrap ((i64.wrap (2*x8))+1))+1)))) r2.2).bind fun r3=>if 2<=r2.2.length then if r3.length=r2.2.length then(FW N n x2 x3 (i64.wrap ((i64.wrap ((i64.wrap (2*x8))+1))+1)) r3) else none else none)) ((BR N (i64.wrap (x3+x8)) (i64.wrap (x3+(i64.wrap ((i64.wrap (2*x8))+1)))) r1.2).bind fun r2=>cond (!r2.1) (some r2.2) ((Av N (i64.wrap (x3+x8)) (i64.wrap (x3+(i64.wrap ((i64.wrap (2*x8))+1)))) r2.2).bind fun r3=>if 2<=r2.2.length then if r3.length=r2.2.length then(FW N n x2 x3 (i64.wrap ((i64.wrap (2*x8))+1)) r3) else none else none))) ((BR N (i64.wrap (x3+x8)) (i64.wrap (x3+(i64.wrap ((i64.wrap (2*x8))+1)))) g004).bind fun r1=>cond (!r1.1) (some r1.2) ((Av N (i64.wrap (x3+x8)) (i64.wrap (x3+(i64.wrap ((i64.wrap (2*x8))+1)))) r1.2).bind fun r2=>if 2<=r1.2.length then if r2.length=r1.2.length then(FW N n x2 x3 (i64.wrap ((i64.wrap (2*x8))+1)) r2) else none else none)))
def If(N:Nat)(a0 a1 a2:Int)(a3:List Org):Option (List Org):=FW N N a1 a2 a0 a3
def IZ(N:Nat):Nat->Int->Int->Int->List Org->Option (List Org)
 |0,_,_,_,_=>none
 |n+1,x6,x7,x10,g003=>cond (decide (x10>=0)) ((Av N x6 (i64.wrap (x6+x10)) g003).bind fun r1=>if 2<=g003.length then if r1.length=g003.length then(If N x7 x10 x6 r1).bind fun r2=>(IZ N n x6 x7 (i64.wrap (x10 - 1)) r2) else none else none) (some g003)
def IY(N:Nat):Nat->Int->Int->Int->Int->List Org->Option (List Org)
 |0,_,_,_,_,_=>none
 |n+1,x6,x7,x8,x9,g003=>cond (decide (x9>=0)) ((If N x9 x8 x6 g003).bind fun r1=>(IY N n x6 x7 x8 (i64.wrap (x9 - 1)) r1)) (IZ N N x6 x7 (i64.wrap (x8 - 1)) g003)
def MY(N:Nat)(a0 a1:Int)(a2:List Org):Option (List Org):=(IY N N a0 0 (i64.wrap (a1 - a0)) (i64.wrap (Int.tdiv (i64.wrap ((i64.wrap (a1 - a0)) - 1)) 2)) a2)
def I1(N:Nat)(k2:Int->Int->Int->List Org->Option (List Org)):Nat->Int->Int->Int->Int->List Org->Option (List Org)
 |0,_,_,_,_,_=>none
 |n+1,x1,x2,x6,x7,g003=>cond (decide (x7>x1)) ((BR N x7 (i64.wrap (x7 - 1)) g003).bind fun r1=>cond r1.1 ((Av N x7 (i64.wrap (x7 - 1)) r1.2).bind fun r2=>if 2<=r1.2.length then if r2.length=r1.2.length then(I1 N k2 n x1 x2 x6 (i64.wrap (x7 - 1)) r2) else none else none) (k2 x1 x2 (i64.wrap (x6+1)) r1.2)) (k2 x1 x2 (i64.wrap (x6+1)) g003)
def I0(N:Nat):Nat->Int->Int->Int->List Org->Option (List Org)
 |0,_,_,_,_=>none
 |n+1,x1,x2,x6,g003=>cond (decide (x6<x2)) (I1 N (fun z0 z1 z2 z3=>(I0 N n z0 z1 z2 z3)) N x1 x2 x6 x6 g003) (some g003)
def MZ(N:Nat)(a0 a1:Int)(a2:List Org):Option (List Org):=I0 N N a0 a1 (i64.wrap (a0+1)) a2
def KY(N:Nat)(q0:Int->Int->Int->List Org->Option (List Org))(k3:Int->Int->Int->Bool->Bool->List Org->Option (List Org))(x1 x2 x3 x10 x11:Int)(g004:List Org):Option (List Org):=(M4 N x1 x2 x11 g004).bind fun r1=>cond (decide ((i64.wrap (r1.1 - x1))<(i64.wrap (x2 - r1.1)))) ((q0 x1 r1.1 x3 r1.2.2).bind fun r2=>(k3 (i64.wrap (r1.1+1)) x2 x3 (decide ((i64.wrap (r1.1 - x1))>=(i64.wrap (Int.tdiv x10 8)))) r1.2.1 r2)) ((q0 (i64.wrap (r1.1+1)) x2 x3 r1.2.2).bind fun r2=>(k3 x1 r1.1 x3 (decide ((i64.wrap (x2 - r1.1))>=(i64.wrap (Int.tdiv x10 8)))) r1.2.1 r2))
def Gq(N:Nat)(q0:Int->Int->Int->List Org->Option (List Org))(k3:Int->Int->Int->Bool->Bool->List Org->Option (List Org))(x1 x2 x3:Int)(x8 x9:Bool)(x10 x11:Int)(g004:List Org):Option (List Org):=cond (decide (x1>0)) ((BR N (i64.wrap (x1 - 1)) x11 g004).bind fun r1=>cond (!r1.1) ((M2 N x1 x2 x11 r1.2).bind fun r2=>(k3 r2.1 x2 x3 x8 x9 r2.2)) (KY N q0 k3 x1 x2 x3 x10 x11 r1.2)) (KY N q0 k3 x1 x2 x3 x10 x11 g004)
def KX(N:Nat)(q0:Int->Int->Int->List Org->Option (List Org))(k3:Int->Int->Int->Bool->Bool->List Org->Option (List Org))(x1 x2 x3:Int)(x8 x9:Bool)(x10 x11 x12:Int)(g004:List Org):Option (List Org):=cond x8 (cond x9 (cond (x12==1) ((M1 N x1 x2 g004).bind fun r1=>cond r1.1 (some r1.2) (Gq N q0 k3 x1 x2 x3 x8 x9 x10 x11 r1.2)) (Gq N q0 k3 x1 x2 x3 x8 x9 x10 x11 g004)) (Gq N q0 k3 x1 x2 x3 x8 x9 x10 x11 g004)) (Gq N q0 k3 x1 x2 x3 x8 x9 x10 x11 g004)
def KW(N:Nat)(q0:Int->Int->Int->List Org->Option (List Org))(k3:Int->Int->Int->Bool->Bool->List Org->Option (List Org))(x1 x2 x3:Int)(x8 x9:Bool)(x10:Int)(g004:List Org):Option (List Org):=(MX N x1 x2 g004).bind fun r1=>cond (r1.2.1==2) ((M5 N x1 x2 r1.2.2).bind fun r2=>(KX N q0 k3 x1 x2 x3 x8 x9 x10 (i64.wrap ((i64.wrap (x2 - 1)) - (i64.wrap (r1.1 - x1)))) 1 r2)) (KX N q0 k3 x1 x2 x3 x8 x9 x10 r1.1 r1.2.1 r1.2.2)
def Gr(N:Nat)(q0:Int->Int->Int->List Org->Option (List Org)):Nat->Int->Int->Int->Bool->Bool->List Org->Option (List Org)
 |0,_,_,_,_,_,_=>none
 |n+1,x1,x2,x3,x8,x9,g004=>cond (decide ((i64.wrap (x2 - x1))<=12)) ((MZ N x1 x2 g004).bind fun r1=>some r1) (cond (x3==0) ((MY N x1 x2 g004).bind fun r1=>some r1) (cond (!x8) ((MW N x1 x2 g004).bind fun r1=>(KW N q0 (fun z0 z1 z2 z3 z4 z5=>(Gr N q0 n z0 z1 z2 z3 z4 z5)) x1 x2 (i64.wrap (x3 - 1)) x8 x9 (i64.wrap (x2 - x1)) r1)) (KW N q0 (fun z0 z1 z2 z3 z4 z5=>(Gr N q0 n z0 z1 z2 z3 z4 z5)) x1 x2 x3 x8 x9 (i64.wrap (x2 - x1)) g004)))
def Uk(N:Nat)(q0:Int->Int->Int->List Org->Option (List Org))(a0 a1 a2:Int)(a3:List Org):Option (List Org):=Gr N q0 N a0 a1 a2 true true a3
def Gs(N:Nat):Nat->Int->Int->Int->List Org->Option (List Org)
 |0,_,_,_,_=>none
 |d+1,a0,a1,a2,a3=>Uk N (Gs N d) a0 a1 a2 a3
def PB(N:Nat)(a0 a1 a2:Int)(a3:List Org):Option (List Org):=Gs N N a0 a1 a2 a3
def F8(N:Nat)(q0:Exp->Int->Option Int):Nat->Int->Int->Exp->Option Int
 |0,_,_,_=>none
 |n+1,x1,x5,b2=>cond (decide (x5<b2.args.length)) (cond (decide (x1>=0)) (ite (0<=x5/\x5<b2.args.length) ((q0 (b2.args.getD x5.toNat Dx) x1).bind fun r1=>(F8 N q0 n r1 (i64.wrap (x5+1)) b2)) none) (some x1)) (some x1)
def xAu(N:Nat)(q0:Exp->Int->Option Int)(a0:Exp)(a1:Int):Option Int:=F8 N q0 N (i64.wrap (a1 - 1)) 0 a0
def Iz(N:Nat):Nat->Exp->Int->Option Int
 |0,_,_=>none
 |d+1,a0,a1=>xAu N (Iz N d) a0 a1
def PT(N:Nat)(a0:Exp)(a1:Int):Option Int:=Iz N N a0 a1
def HT(N:Nat)(a0 a1:Int):Option Int:=cond (decide (a0>a1)) (some a0) (some a1)
def BA(a0:Exp):List Arg:=[.val (.v true (Ex .ro a0))]
def Ir(N:Nat)(q0:Exp->Option Int):Nat->Int->Int->Exp->Option Int
 |0,_,_,_=>none
 |n+1,x3,x4,b1=>cond (decide (x4<b1.args.length)) (ite (0<=x4/\x4<b1.args.length) ((q0 (b1.args.getD x4.toNat Dx)).bind fun r1=>(HT N x3 r1).bind fun r2=>(Ir N q0 n r2 (i64.wrap (x4+1)) b1)) none) (some (i64.wrap (x3+1)))
def xAj(N:Nat)(q0:Exp->Option Int)(a0:Exp):Option Int:=Ir N q0 N 0 0 a0
def Kd(N:Nat):Nat->Exp->Option Int
 |0,_=>none
 |d+1,a0=>xAj N (Kd N d) a0
def PO(N:Nat)(a0:Exp):Option Int:=Kd N N a0
def Dj(N:Nat)(a0 a1 a2:Int):Option Bool:=cond (decide (a0>=a1)) (some (decide (a0<=a2))) (some false)
def C1(a0:Str):List Arg:=[.val (vTq a0)]
def F6(N:Nat):Nat->Str->Int->Option Bool
 |0,_,_=>none
 |n+1,x0,x3=>cond (decide (x3<x0.length)) (ite (0<=x3/\x3<x0.length) (cond (decide (((x0.getD x3.toNat 0).toNat:Int)<32)) (some false) (cond (decide (((x0.getD x3.toNat 0).toNat:Int)>126)) (some false) (cond (((x0.getD x3.toNat 0).toNat:Int)==34) (some false) (F6 N n x0 (i64.wrap (x3+1)))))) none) (some (decide ((x0.length:Int)<=20)))
def Mh(N:Nat)(a0:Str):Option Bool:=F6 N N a0 0
def Dk(N:Nat):Nat->Str->Int->Option Bool
 |0,_,_=>none
 |n+1,x0,x3=>cond (decide (x3<x0.length)) (ite (0<=x3/\x3<x0.length) (cond (decide (((x0.getD x3.toNat 0).toNat:Int)>=97)) (cond (decide (((x0.getD x3.toNat 0).toNat:Int)>=48)) (cond (!(decide (((x0.getD x3.toNat 0).toNat:Int)<=122))) (cond (x3==0) (some false) (cond (!(decide (((x0.getD x3.toNat 0).toNat:Int)<=57))) (some false) (Dk N n x0 (i64.wrap (x3+1))))) (Dk N n x0 (i64.wrap (x3+1)))) (cond (!(decide (((x0.getD x3.toNat 0).toNat:Int)<=122))) (cond (x3==0) (some false) (some false)) (Dk N n x0 (i64.wrap (x3+1))))) (cond (decide (((x0.getD x3.toNat 0).toNat:Int)>=48)) (cond (x3==0) (some false) (cond (!(decide (((x0.getD x3.toNat 0).toNat:Int)<=57))) (some false) (Dk N n x0 (i64.wrap (x3+1))))) (cond (x3==0) (some false) (some false)))) none) (some (decide ((x0.length:Int)>0)))
def P6(N:Nat)(a0:Str):Option Bool:=Dk N N a0 0
def xJ0:List Arg:=[]
def HU(r:(List Str)):CallO:=cO (vS .own .str r)
def P5(N:Nat):Option (List Str):=some [[108,101,116],[105,110],[105,102],[116,104,101,110],[101,108,115,101],[102,111,114],[100,111],[108,101,110],[115,117,109],[116,97,107,101],[115,107,105,112],[114,97,110,103,101],[110,116,104],[119,104,101,114,101],[107,101,101,112],[97,100,100],[103,114,111,117,112],[106,111,105,110],[99,111,108,117,109,110],[114,111,119,115],[99,108,111,99,107],[99,104,97,110,99,101],[102,105,108,101],[116,97,98,108,101]]
def HR(N:Nat):Nat->List Str->Str->Int->Option Bool
 |0,_,_,_=>none
 |n+1,x0,x1,x5=>cond (decide (x5<x0.length)) (ite (0<=x5/\x5<x0.length) (cond (((x0.getD x5.toNat Ds):Str)==x1) (some true) (HR N n x0 x1 (i64.wrap (x5+1)))) none) (some false)
def NG(N:Nat)(a0:List Str)(a1:Str):Option Bool:=HR N N a0 a1 0
def Mg(N:Nat)(a0:Str):Option Bool:=(P5 N).bind fun r1=>(NG N r1 a0).bind fun r2=>some r2
def F5(N:Nat)(a0:Str):Option Bool:=(P6 N a0).bind fun r1=>cond r1 (cond (decide ((a0.length:Int)<=8)) ((Mg N a0).bind fun r2=>some (!r2)) (some false)) (some false)
def Db(N:Nat)(a0:Str):Option Int:=cond (a0== [99,108,111,99,107]) (some 0) (cond (a0== [108,101,110]) (some 1) (cond (a0== [115,117,109]) (some 1) (cond (a0== [114,111,119,115]) (some 1) (cond (a0== [99,104,97,110,99,101]) (some 1) (cond (a0== [102,105,108,101]) (some 1) (cond (a0== [116,97,107,101]) (some 2) (cond (a0== [115,107,105,112]) (some 2) (cond (a0== [114,97,110,103,101]) (some 2) (cond (a0== [110,116,104]) (some 2) (cond (a0== [107,101,101,112]) (some 2) (cond (a0== [99,111,108,117,109,110]) (some 2) (cond (a0== [116,97,98,108,101]) (some 2) (cond (a0== [119,104,101,114,101]) (some 3) (cond (a0== [103,114,111,117,112]) (some 3) (cond (a0== [106,111,105,110]) (some 3) (cond (a0== [97,100,100]) (some 4) (some (-1))))))))))))))))))
def Mv(N:Nat)(a0:Exp):Option Bool:=cond (a0.kind==1) (cond ((a0.args.length:Int)==0) (cond (a0.text== []) ((Dj N a0.n 0 1000000000).bind fun r1=>some r1) (some false)) (some false)) (cond (a0.kind==2) (cond ((a0.args.length:Int)==0) (cond (a0.n==0) ((Mh N a0.text).bind fun r1=>some r1) (some false)) (some false)) (cond (a0.kind==3) (cond ((a0.args.length:Int)==0) (cond (a0.n==0) ((F5 N a0.text).bind fun r1=>some r1) (some false)) (some false)) (cond (a0.kind==4) (cond (a0.n==0) (cond (a0.text== []) (some (decide ((a0.args.length:Int)<=8))) (some false)) (some false)) (cond (a0.kind==5) (cond (a0.n==0) ((Db N a0.text).bind fun r1=>some ((a0.args.length:Int)==r1)) (some false)) (cond (a0.kind==6) (cond (a0.text== []) (cond ((a0.args.length:Int)==2) ((Dj N a0.n 1 5).bind fun r1=>some r1) (some false)) (some false)) (cond (a0.kind==7) (cond (a0.n==0) (cond ((a0.args.length:Int)==2) ((F5 N a0.text).bind fun r1=>some r1) (some false)) (some false)) (cond (a0.kind==9) (cond (a0.n==0) (cond ((a0.args.length:Int)==2) ((F5 N a0.text).bind fun r1=>some r1) (some false)) (some false)) (cond (a0.kind==8) (cond (a0.n==0) (cond (a0.text== []) (some ((a0.args.length:Int)==3)) (some false)) (some false)) (some false)))))))))
def HJ(N:Nat)(q0:Exp->Option Bool):Nat->Int->Exp->Option Bool
 |0,_,_=>none
 |n+1,x3,b1=>cond (decide (x3<b1.args.length)) (ite (0<=x3/\x3<b1.args.length) ((q0 (b1.args.getD x3.toNat Dx)).bind fun r1=>cond (!r1) (some false) (HJ N q0 n (i64.wrap (x3+1)) b1)) none) ((Mv N b1).bind fun r1=>some r1)
def xAq(N:Nat)(q0:Exp->Option Bool)(a0:Exp):Option Bool:=HJ N q0 N 0 a0
def Kh(N:Nat):Nat->Exp->Option Bool
 |0,_=>none
 |d+1,a0=>xAq N (Kh N d) a0
def PR(N:Nat)(a0:Exp):Option Bool:=Kh N N a0
def Cr(N:Nat)(a0:Exp):Option Bool:=(PT N a0 40).bind fun r1=>cond (decide (r1>=0)) ((PO N a0).bind fun r2=>cond (decide (r2<=8)) ((PR N a0).bind fun r3=>some r3) (some false)) (some false)
def AW(r:Val):CallO:=cO (vV .own r)
def AK(N:Nat)(a0:Int):Option Val:=some (Val.mk 6 a0 0 [] [] [] [])
def A6(N:Nat)(a0:Int):Option Val:=some (Val.mk 1 a0 0 [] [] [] [])
def Df(N:Nat)(a0:Str):Option Val:=some (Val.mk 2 0 0 a0 [] [] [])
def Pd(r:Rowd):CallO:=⟨.v true [.sl .own .int (Rowd.cells r),.sl .own .org (Rowd.frm r)],[],[]⟩
def Kq(N:Nat)(a0:Rowd):Option Rowd:=if 0+a0.cells.length<=Lim then if 0+a0.frm.length<=Lim then some (Rowd.mk ([]++a0.cells) ([]++a0.frm)) else none else none
def Am(a0:Val):List Arg:=[.val (vV .ro a0)]
def HW(N:Nat)(q0:Val->Option Val):Nat->Int->Val->Val->Val->Option Val
 |0,_,_,_,_=>none
 |n+1,x5,b1,b2,b3=>cond (decide (x5<b1.rows.length)) (ite (0<=x5/\x5<b1.rows.length) ((Kq N (b1.rows.getD x5.toNat Ty.row.dflt)).bind fun r1=>if b3.rows.length+ [r1].length<=Lim then(HW N q0 n (i64.wrap (x5+1)) b1 b2 (Val.mk b3.kind b3.n b3.step b3.text b3.list b3.columns (b3.rows++ [r1]))) else none) none) (some b3)
def JM(N:Nat)(q0:Val->Option Val):Nat->Int->Val->Val->Val->Option Val
 |0,_,_,_,_=>none
 |n+1,x4,b1,b2,b3=>cond (decide (x4<b1.list.length)) (ite (0<=x4/\x4<b1.list.length) ((q0 (b1.list.getD x4.toNat Dv)).bind fun r1=>if b3.list.length+ [r1.re].length<=Lim then(JM N q0 n (i64.wrap (x4+1)) b1 b2 (Val.mk b3.kind b3.n b3.step b3.text (b3.list++ [r1.re]) b3.columns b3.rows)) else none) none) (HW N q0 N 0 b1 b2 b3)
def NJ(N:Nat)(q0:Val->Option Val)(a0:Val):Option Val:=if 0+a0.columns.length<=Lim then(JM N q0 N 0 a0 (Val.mk 0 0 0 [] [] [] []) (Val.mk a0.kind a0.n a0.step a0.text [] ([]++a0.columns) [])) else none
def HX(N:Nat):Nat->Val->Option Val
 |0,_=>none
 |d+1,a0=>NJ N (HX N d) a0
def B1(N:Nat)(a0:Val):Option Val:=HX N N a0
def Iq(N:Nat):Nat->List Bnd->Str->Int->Val->Option Val
 |0,_,_,_,_=>none
 |n+1,x0,x1,x5,b4=>cond (decide (x5>=0)) (ite (0<=x5/\x5<x0.length) (cond (((Bnd.name (x0.getD x5.toNat Ty.bnd.dflt)):Str)==x1) ((B1 N (Bnd.value (x0.getD x5.toNat Ty.bnd.dflt))).bind fun r1=>some r1) (Iq N n x0 x1 (i64.wrap (x5 - 1)) b4)) none) ((AK N 1).bind fun r1=>some r1)
def Mk(N:Nat)(a0:List Bnd)(a1:Str):Option Val:=(Iq N N a0 a1 (i64.wrap ((a0.length:Int) - 1)) (Val.mk 0 0 0 [] [] [] []))
def Cs(N:Nat)(a0:Int):Option Bool:=(Dj N a0 (-1000000000) 1000000000).bind fun r1=>some r1
def Ko(N:Nat)(a0:Val):Option Bool:=cond (a0.kind==1) (some true) (cond (a0.kind==2) (some true) (some (a0.kind==3)))
def Ij(N:Nat)(q0:Val->Option Int):Nat->Int->Int->Val->Option Int
 |0,_,_,_=>none
 |n+1,x3,x4,b1=>cond (decide (x4<b1.list.length)) (ite (0<=x4/\x4<b1.list.length) ((q0 (b1.list.getD x4.toNat Dv)).bind fun r1=>(HT N x3 r1).bind fun r2=>(Ij N q0 n r2 (i64.wrap (x4+1)) b1)) none) (some (i64.wrap (x3+1)))
def Up(N:Nat)(q0:Val->Option Int)(a0:Val):Option Int:=Ij N q0 N 0 0 a0
def Gy(N:Nat):Nat->Val->Option Int
 |0,_=>none
 |d+1,a0=>Up N (Gy N d) a0
def Ii(N:Nat)(a0:Val):Option Int:=Gy N N a0
def Gu(N:Nat):Nat->List Str->Int->Option Bool
 |0,_,_=>none
 |n+1,x0,x3=>cond (decide (x3<x0.length)) (if(0:Int)<=x3/\x3<=x0.length then ite (0<=x3/\x3<x0.length) ((NG N (List.take x3.toNat x0) (x0.getD x3.toNat Ds)).bind fun r1=>cond r1 (some false) (Gu N n x0 (i64.wrap (x3+1)))) none else none) (some true)
def KZ(N:Nat)(a0:List Str):Option Bool:=Gu N N a0 0
def JL(N:Nat):Nat->List Str->Int->Option Bool
 |0,_,_=>none
 |n+1,x0,x3=>cond (decide (x3<x0.length)) (ite (0<=x3/\x3<x0.length) ((F5 N (x0.getD x3.toNat Ds)).bind fun r1=>cond (!r1) (some false) (JL N n x0 (i64.wrap (x3+1)))) none) ((Dj N (x0.length:Int) 1 4).bind fun r1=>cond r1 ((KZ N x0).bind fun r2=>some r2) (some false))
def NI(N:Nat)(a0:List Str):Option Bool:=JL N N a0 0
def HV(N:Nat)(a0 a1:Org):Option Bool:=cond (decide (a0.cell<a1.cell)) (some true) (cond (a0.cell==a1.cell) (some (decide (a0.row<a1.row))) (some false))
def Fg(N:Nat):Nat->List Org->Int->Option Bool
 |0,_,_=>none
 |n+1,x0,x3=>cond (decide (x3<x0.length)) (ite (0<=x3/\x3<x0.length) (cond (decide (((Org.cell (x0.getD x3.toNat Do)):Int)<0)) (some false) (cond (decide (((Org.row (x0.getD x3.toNat Do)):Int)<0)) (some false) (cond (decide (x3>0)) (if(0:Int)<=(i64.wrap (x3 - 1))/\(i64.wrap (x3 - 1))<x0.length then(HV N (x0.getD (Int.toNat (i64.wrap (x3 - 1))) Do) (x0.getD x3.toNat Do)).bind fun r1=>cond (!r1) (some false) (Fg N n x0 (i64.wrap (x3+1))) else none) (Fg N n x0 (i64.wrap (x3+1)))))) none) (some true)
def P7(N:Nat)(a0:List Org):Option Bool:=Fg N N a0 0
def H1(N:Nat)(k4:Int->Val->Option Bool):Nat->Int->Int->Val->Rowd->Option Bool
 |0,_,_,_,_=>none
 |n+1,x3,x5,b1,b4=>cond (decide (x5<b4.cells.length)) (ite (0<=x5/\x5<b4.cells.length) ((Cs N (b4.cells.getD x5.toNat Di)).bind fun r1=>cond (!r1) (some false) (H1 N k4 n x3 (i64.wrap (x5+1)) b1 b4)) none) (k4 (i64.wrap (x3+1)) b1)
def JS(N:Nat):Nat->Int->Val->Option Bool
 |0,_,_=>none
 |n+1,x3,b1=>cond (decide (x3<b1.rows.length)) (ite (0<=x3/\x3<b1.rows.length) (cond ((List.length (Rowd.cells (b1.rows.getD x3.toNat Ty.row.dflt)):Int) != (b1.columns.length:Int)) (some false) ((P7 N (Rowd.frm (b1.rows.getD x3.toNat Ty.row.dflt))).bind fun r1=>cond (!r1) (some false) (H1 N (fun z0 z1=>(JS N n z0 z1)) N x3 0 b1 (b1.rows.getD x3.toNat Ty.row.dflt)))) none) (some true)
def NO(N:Nat)(a0:Val):Option Bool:=(NI N a0.columns).bind fun r1=>cond (!r1) (some false) (cond (decide ((a0.rows.length:Int)>12)) (some false) (JS N N 0 a0))
def Mi(N:Nat)(q0 q1:Val->Option Bool)(a0:Val):Option Bool:=cond (a0.kind != 3) (cond (decide ((a0.list.length:Int)>0)) (some false) (cond (a0.kind != 5) (cond (decide (((i64.wrap ((a0.columns.length:Int)+(a0.rows.length:Int))):Int)>0)) (some false) (cond (a0.kind != 2) (cond (!(a0.text== [])) (some false) (cond (a0.kind != 4) (cond (a0.step != 0) (some false) (cond (a0.kind==1) ((Cs N a0.n).bind fun r1=>some r1) (cond (a0.kind==6) ((Dj N a0.n 1 8).bind fun r1=>some r1) (some false)))) ((Cs N a0.n).bind fun r1=>cond r1 ((Cs N a0.step).bind fun r2=>some r2) (some false)))) (cond (a0.step != 0) (some false) (cond (a0.n==0) ((Mh N a0.text).bind fun r1=>some r1) (some false))))) (cond (!(a0.text== [])) (some false) (cond (a0.step != 0) (some false) (cond (a0.n==0) ((NO N a0).bind fun r1=>some r1) (some false)))))) (cond (decide (((i64.wrap ((a0.columns.length:Int)+(a0.rows.length:Int))):Int)>0)) (some false) (cond (!(a0.text== [])) (some false) (cond (a0.step != 0) (some false) (cond (a0.n==0) ((q1 a0).bind fun r1=>some r1) (some false)))))
def HZ(N:Nat)(q0 q1:Val->Option Bool):Nat->Int->Val->Option Bool
 |0,_,_=>none
 |n+1,x3,b1=>cond (decide (x3<b1.list.length)) (ite (0<=x3/\x3<b1.list.length) ((Ko N (b1.list.getD x3.toNat Dv)).bind fun r1=>cond (!r1) (some false) ((q0 (b1.list.getD x3.toNat Dv)).bind fun r2=>cond (!r2) (some false) (HZ N q0 q1 n (i64.wrap (x3+1)) b1))) none) (cond (decide ((b1.list.length:Int)<=8)) ((Ii N b1).bind fun r1=>some (decide (r1<=3))) (some false))
def xAR(N:Nat)(q0 q1:Val->Option Bool)(a0:Val):Option Bool:=HZ N q0 q1 N 0 a0
structure Rq0 where
 c0:Val->Option (Bool)
 c1:Val->Option (Bool)
def Bb(N:Nat):Nat->Rq0
 |0=>⟨fun _=>none,fun _=>none⟩
 |d+1=>⟨Mi N (Bb N d).c0 (Bb N d).c1,xAR N (Bb N d).c0 (Bb N d).c1⟩
def In(N:Nat)(a0:Val):Option Bool:=(Bb N N).c0 a0
def Ee(a0:List Val):List Arg:=[.val (vS .ro .val a0)]
def Eg(r:Val×Bool):CallO:=⟨.tup [(true,(Va .own r.1)),(false,[.bool r.2])],[],[]⟩
def Fh(N:Nat):Nat->List Val->Int->Val->Option (Val×Bool)
 |0,_,_,_=>none
 |n+1,x0,x4,b2=>cond (decide (x4<x0.length)) (ite (0<=x4/\x4<x0.length) ((In N (x0.getD x4.toNat Dv)).bind fun r1=>cond (!r1) ((AK N 4).bind fun r2=>some (r2,true)) (cond (((Val.kind (x0.getD x4.toNat Dv)):Int)==6) ((AK N (Val.n (x0.getD x4.toNat Dv))).bind fun r2=>some (r2,true)) (Fh N n x0 (i64.wrap (x4+1)) b2))) none) (some ((Val.mk 0 0 0 [] [] [] []),false))
def Ed(N:Nat)(a0:List Val):Option (Val×Bool):=Fh N N a0 0 (Val.mk 0 0 0 [] [] [] [])
def Ip(N:Nat):Nat->List Val->Int->Val->Val->Option Val
 |0,_,_,_,_=>none
 |n+1,x0,x4,b2,b3=>cond (decide (x4<x0.length)) (ite (0<=x4/\x4<x0.length) ((B1 N (x0.getD x4.toNat Dv)).bind fun r1=>if b3.list.length+ [r1.re].length<=Lim then(Ip N n x0 (i64.wrap (x4+1)) b2 (Val.mk b3.kind b3.n b3.step b3.text (b3.list++ [r1.re]) b3.columns b3.rows)) else none) none) (some b3)
def Kc(N:Nat)(a0:List Val):Option Val:=Ip N N a0 0 (Val.mk 0 0 0 [] [] [] []) (Val.mk 3 0 0 [] [] [] [])
def Gw(N:Nat):Nat->List Val->Int->Val->Option Val
 |0,_,_,_=>none
 |n+1,x0,x5,b2=>cond (decide (x5<x0.length)) (ite (0<=x5/\x5<x0.length) ((Ko N (x0.getD x5.toNat Dv)).bind fun r1=>cond (!r1) ((AK N 4).bind fun r2=>some r2) (Gw N n x0 (i64.wrap (x5+1)) b2)) none) ((Kc N x0).bind fun r1=>cond (decide ((x0.length:Int)>8)) ((AK N 6).bind fun r2=>some r2) ((Ii N r1).bind fun r2=>cond (decide (r2>3)) ((AK N 6).bind fun r3=>some r3) (some r1)))
def Gv(N:Nat)(a0:List Val):Option Val:=(Ed N a0).bind fun r1=>cond r1.2 ((B1 N r1.1).bind fun r2=>some r2) (Gw N N a0 0 (Val.mk 0 0 0 [] [] [] []))
def De(N:Nat)(q0:Exp->Option Bool):Nat->Int->Exp->Option Bool
 |0,_,_=>none
 |n+1,x3,b1=>cond (decide (x3<b1.args.length)) (ite (0<=x3/\x3<b1.args.length) ((q0 (b1.args.getD x3.toNat Dx)).bind fun r1=>cond r1 (some true) (De N q0 n (i64.wrap (x3+1)) b1)) none) (some false)
def Mf(N:Nat)(q0:Exp->Option Bool)(a0:Exp):Option Bool:=cond (a0.kind==5) (cond (a0.text== [99,108,111,99,107]) (some true) (cond (a0.text== [99,104,97,110,99,101]) (some true) (cond (a0.text== [102,105,108,101]) (some true) (De N q0 N 0 a0)))) (De N q0 N 0 a0)
def F3(N:Nat):Nat->Exp->Option Bool
 |0,_=>none
 |d+1,a0=>Mf N (F3 N d) a0
def HD(N:Nat)(a0:Exp):Option Bool:=F3 N N a0
def Mj(N:Nat)(a0:Val):Option Val:=(Ed N [a0.re]).bind fun r1=>cond r1.2 (some r1.1) (cond (a0.kind==3) ((A6 N (a0.list.length:Int)).bind fun r2=>some r2) (cond (a0.kind==2) ((A6 N (a0.text.length:Int)).bind fun r2=>some r2) ((AK N 4).bind fun r2=>some r2)))
def Dd(N:Nat)(a0:Int):Option Val:=(Cs N a0).bind fun r1=>cond (!r1) ((AK N 5).bind fun r2=>some r2) ((A6 N a0).bind fun r2=>some r2)
def EX(N:Nat):Nat->Int->Val->Val->Val->Option Val
 |0,_,_,_,_=>none
 |n+1,x6,b1,b2,b5=>cond (decide (x6<b1.list.length)) (ite (0<=x6/\x6<b1.list.length) (cond (((Val.kind (b1.list.getD x6.toNat Dv)):Int) != 1) ((AK N 4).bind fun r1=>some r1) ((Dd N (i64.wrap (b5.n+(Val.n (b1.list.getD x6.toNat Dv))))).bind fun r1=>cond (r1.kind==6) (some r1) (EX N n (i64.wrap (x6+1)) b1 b2 r1))) none) (some b5)
def Mo(N:Nat)(a0:Val):Option Val:=(Ed N [a0.re]).bind fun r1=>cond r1.2 (some r1.1) (cond (a0.kind != 3) ((AK N 4).bind fun r2=>some r2) ((A6 N 0).bind fun r2=>(EX N N 0 a0 (Val.mk 0 0 0 [] [] [] []) r2)))
def Fi(N:Nat):Nat->List Val->List Int->Int->Val->Option (Val×Bool)
 |0,_,_,_,_=>none
 |n+1,x0,x1,x8,b4=>cond (decide (x8<x0.length)) (ite (0<=x8/\x8<x0.length) (ite (0<=x8/\x8<x1.length) (cond (((Val.kind (x0.getD x8.toNat Dv)):Int) != (x1.getD x8.toNat Di)) ((AK N 4).bind fun r1=>some (r1,true)) (Fi N n x0 x1 (i64.wrap (x8+1)) b4)) none) none) (some ((Val.mk 0 0 0 [] [] [] []),false))
def Ct(N:Nat)(a0:List Val)(a1:List Int):Option (Val×Bool):=(Ed N a0).bind fun r1=>cond r1.2 (some (r1.1,true)) (Fi N N a0 a1 0 (Val.mk 0 0 0 [] [] [] []))
def M9(N:Nat)(a0:Val):Option Val:=(Ct N [a0.re] [5]).bind fun r1=>cond r1.2 (some r1.1) ((A6 N (a0.rows.length:Int)).bind fun r2=>some r2)
def B2(a0 a1:Val):List Arg:=[.val (vV .ro a0),.val (vV .ro a1)]
def JW(N:Nat)(a0 a1:Val):Option (Val×Bool):=(Ed N [a0.re,a1.re]).bind fun r1=>cond r1.2 (some (r1.1,true)) (cond (a0.kind != 1) ((AK N 4).bind fun r2=>some (r2,true)) (cond (a1.kind != 3) (cond (a1.kind != 4) ((AK N 4).bind fun r2=>some (r2,true)) (some ((Val.mk 0 0 0 [] [] [] []),false))) (some ((Val.mk 0 0 0 [] [] [] []),false))))
def CL(N:Nat)(a0 a1:Val):Option Val:=(JW N a0 a1).bind fun r1=>cond r1.2 (some r1.1) (cond (decide (a0.n<0)) ((AK N 5).bind fun r2=>some r2) (cond (a1.kind==3) (cond (decide (a0.n>=(a1.list.length:Int))) ((AK N 5).bind fun r2=>some r2) (if(0:Int)<=a0.n/\a0.n<a1.list.length then(B1 N (a1.list.getD a0.n.toNat Dv)).bind fun r2=>some r2 else none)) ((Dd N (i64.wrap (a1.n+(i64.wrap (a0.n*a1.step))))).bind fun r2=>some r2)))
def DJ(N:Nat):Nat->Int->Val->Val->Val->Val->Option Val
 |0,_,_,_,_,_=>none
 |n+1,x8,b2,b3,b4,b7=>cond (decide (x8<b2.n)) (cond (b3.kind==3) (cond (x8==(b3.list.length:Int)) (some b7) ((A6 N x8).bind fun r1=>(CL N r1 b3).bind fun r2=>cond (r2.kind==6) (some r2) (if b7.list.length+ [r2.re].length<=Lim then(DJ N n (i64.wrap (x8+1)) b2 b3 b4 (Val.mk b7.kind b7.n b7.step b7.text (b7.list++ [r2.re]) b7.columns b7.rows)) else none))) ((A6 N x8).bind fun r1=>(CL N r1 b3).bind fun r2=>cond (r2.kind==6) (some r2) (if b7.list.length+ [r2.re].length<=Lim then(DJ N n (i64.wrap (x8+1)) b2 b3 b4 (Val.mk b7.kind b7.n b7.step b7.text (b7.list++ [r2.re]) b7.columns b7.rows)) else none))) (some b7)
def HI(N:Nat)(a0 a1:Val):Option Val:=(JW N a0 a1).bind fun r1=>cond r1.2 (some r1.1) ((Dj N a0.n 0 8).bind fun r2=>cond (!r2) ((AK N 5).bind fun r3=>some r3) (DJ N N 0 a0 a1 (Val.mk 0 0 0 [] [] [] []) (Val.mk 3 0 0 [] [] [] [])))
def P3(N:Nat)(a0 a1:Int):Option Int:=cond (decide (a0<a1)) (some a0) (some a1)
def It(N:Nat)(a0 a1:Int):Option Val:=some (Val.mk 4 a0 a1 [] [] [] [])
def HH(N:Nat)(a0 a1:Val):Option Val:=(JW N a0 a1).bind fun r1=>cond r1.2 (some r1.1) (cond (decide (a0.n<0)) ((AK N 5).bind fun r2=>some r2) (cond (a1.kind==3) ((P3 N a0.n (a1.list.length:Int)).bind fun r2=>if(0:Int)<=r2/\r2<=a1.list.length then(Kc N (List.drop r2.toNat a1.list)).bind fun r3=>some r3 else none) ((CL N a0 a1).bind fun r2=>cond (r2.kind==6) (some r2) ((It N r2.n a1.step).bind fun r3=>some r3))))
def Mx(N:Nat)(a0 a1:Val):Option Val:=(Ct N [a0.re,a1.re] [1,1]).bind fun r1=>cond r1.2 (some r1.1) ((It N a0.n a1.n).bind fun r2=>some r2)
def EW(N:Nat):Nat->Str->Int->List Str->Int->Int->Option (List Str)
 |0,_,_,_,_,_=>none
 |n+1,x0,x1,x5,x6,x7=>cond (decide (x7<=(x0.length:Int))) (cond (x7==(x0.length:Int)) (if(0:Int)<=x6/\x6<=x7/\x7<=x0.length then if x5.length+ [(List.drop x6.toNat (List.take x7.toNat x0))].length<=Lim then(EW N n x0 x1 (x5++ [(List.drop x6.toNat (List.take x7.toNat x0))]) (i64.wrap (x7+1)) (i64.wrap (x7+1))) else none else none) (ite (0<=x7/\x7<x0.length) (cond (((x0.getD x7.toNat 0).toNat:Int)==x1) (if(0:Int)<=x6/\x6<=x7/\x7<=x0.length then if x5.length+ [(List.drop x6.toNat (List.take x7.toNat x0))].length<=Lim then(EW N n x0 x1 (x5++ [(List.drop x6.toNat (List.take x7.toNat x0))]) (i64.wrap (x7+1)) (i64.wrap (x7+1))) else none else none) (EW N n x0 x1 x5 x6 (i64.wrap (x7+1)))) none)) (some x5)
def Ke(N:Nat)(a0:Str)(a1:Int):Option (List Str):=EW N N a0 a1 [] 0 0
def Il(N:Nat):Nat->List Str->Str->Int->Option Int
 |0,_,_,_=>none
 |n+1,x0,x1,x5=>cond (decide (x5<x0.length)) (ite (0<=x5/\x5<x0.length) (cond (((x0.getD x5.toNat Ds):Str)==x1) (some x5) (Il N n x0 x1 (i64.wrap (x5+1)))) none) (some (-1))
def PI(N:Nat)(a0:List Str)(a1:Str):Option Int:=Il N N a0 a1 0
def C0(N:Nat)(a0:Val)(a1:Str):Option Int:=(PI N a0.columns a1).bind fun r1=>some r1
def EV(r:Val):CallO:=cO (vV .ro r)
def HG(N:Nat)(k12:List Str->Int->Val->Val->Val->Option Val):Nat->List Str->Int->Int->Val->Val->Val->Rowd->Option Val
 |0,_,_,_,_,_,_,_=>none
 |n+1,x7,x10,x12,b3,b4,b8,b11=>cond (decide (x12<x7.length)) (ite (0<=x10/\x10<b3.rows.length) (ite (0<=x12/\x12<x7.length) ((C0 N b3 (x7.getD x12.toNat Ds)).bind fun r1=>if(0:Int)<=r1/\r1<(List.length (Rowd.cells (b3.rows.getD x10.toNat Ty.row.dflt))) then if b11.cells.length+ [(List.getD (Rowd.cells (b3.rows.getD x10.toNat Ty.row.dflt)) r1.toNat Di)].length<=Lim then(HG N k12 n x7 x10 (i64.wrap (x12+1)) b3 b4 b8 (Rowd.mk (b11.cells++ [(List.getD (Rowd.cells (b3.rows.getD x10.toNat Ty.row.dflt)) r1.toNat Di)]) b11.frm)) else none else none) none) none) (if b8.rows.length+ [b11].length<=Lim then(k12 x7 (i64.wrap (x10+1)) b3 b4 (Val.mk b8.kind b8.n b8.step b8.text b8.list b8.columns (b8.rows++ [b11]))) else none)
def ET(N:Nat):Nat->List Str->Int->Val->Val->Val->Option Val
 |0,_,_,_,_,_=>none
 |n+1,x7,x10,b3,b4,b8=>cond (decide (x10<b3.rows.length)) (ite (0<=x10/\x10<b3.rows.length) (if 0+List.length (Rowd.frm (b3.rows.getD x10.toNat Ty.row.dflt))<=Lim then(HG N (fun z0 z1 z2 z3 z4=>(ET N n z0 z1 z2 z3 z4)) N x7 x10 0 b3 b4 b8 (Rowd.mk [] ([]++(Rowd.frm (b3.rows.getD x10.toNat Ty.row.dflt))))) else none) none) (some b8)
def EU(N:Nat):Nat->List Str->Int->Val->Val->Val->Option Val
 |0,_,_,_,_,_=>none
 |n+1,x7,x9,b3,b4,b8=>cond (decide (x9<x7.length)) (ite (0<=x9/\x9<x7.length) ((C0 N b3 (x7.getD x9.toNat Ds)).bind fun r1=>cond (decide (r1<0)) ((AK N 7).bind fun r2=>some r2) ((KZ N x7).bind fun r2=>cond (!r2) ((AK N 7).bind fun r3=>some r3) (EU N n x7 (i64.wrap (x9+1)) b3 b4 b8))) none) (ET N N x7 0 b3 b4 b8)
def Kb(N:Nat)(a0 a1:Val):Option Val:=(Ct N [a0.re,a1.re] [2,5]).bind fun r1=>cond r1.2 (some r1.1) ((Ke N a0.text 32).bind fun r2=>(EU N N r2 0 a1 (Val.mk 0 0 0 [] [] [] []) (Val.mk 5 0 0 [] [] r2 [])))
def Gx(N:Nat):Nat->Int->Int->Val->Val->Val->Option Val
 |0,_,_,_,_,_=>none
 |n+1,x7,x9,b3,b4,b8=>cond (decide (x9<b3.rows.length)) (ite (0<=x9/\x9<b3.rows.length) (if(0:Int)<=x7/\x7<(List.length (Rowd.cells (b3.rows.getD x9.toNat Ty.row.dflt))) then(A6 N (List.getD (Rowd.cells (b3.rows.getD x9.toNat Ty.row.dflt)) x7.toNat Di)).bind fun r1=>if b8.list.length+ [r1.re].length<=Lim then(Gx N n x7 (i64.wrap (x9+1)) b3 b4 (Val.mk b8.kind b8.n b8.step b8.text (b8.list++ [r1.re]) b8.columns b8.rows)) else none else none) none) (some b8)
def Ih(N:Nat)(a0 a1:Val):Option Val:=(Ct N [a0.re,a1.re] [2,5]).bind fun r1=>cond r1.2 (some r1.1) ((C0 N a1 a0.text).bind fun r2=>cond (decide (r2<0)) ((AK N 7).bind fun r3=>some r3) (cond (decide ((a1.rows.length:Int)>8)) ((AK N 6).bind fun r3=>some r3) (Gx N N r2 0 a1 (Val.mk 0 0 0 [] [] [] []) (Val.mk 3 0 0 [] [] [] []))))
def xAX(r:(List Int)×Bool):CallO:=⟨.tup [(false,[.sl .own .int r.1]),(false,[.bool r.2])],[],[]⟩
def H5(N:Nat):Nat->List Int->Int->Val->Option ((List Int)×Bool)
 |0,_,_,_=>none
 |n+1,x4,x5,b1=>cond (decide (x5<b1.list.length)) (ite (0<=x5/\x5<b1.list.length) (cond (((Val.kind (b1.list.getD x5.toNat Dv)):Int) != 1) (some (x4,false)) (if x4.length+ [(Val.n (b1.list.getD x5.toNat Dv))].length<=Lim then(H5 N n (x4++ [(Val.n (b1.list.getD x5.toNat Dv))]) (i64.wrap (x5+1)) b1) else none)) none) (some (x4,(b1.kind==3)))
def NP(N:Nat)(a0:Val):Option ((List Int)×Bool):=H5 N N [] 0 a0
def EY(N:Nat):Nat->Int->Val->Val->Val->Option Val
 |0,_,_,_,_=>none
 |n+1,x8,b3,b4,b7=>cond (decide (x8<b3.list.length)) (ite (0<=x8/\x8<b3.list.length) ((NP N (b3.list.getD x8.toNat Dv)).bind fun r1=>cond (!r1.2) ((AK N 4).bind fun r2=>some r2) (cond ((r1.1.length:Int) != (b7.columns.length:Int)) ((AK N 4).bind fun r2=>some r2) (if b7.rows.length+List.length [(Rowd.mk r1.1 [])]<=Lim then(EY N n (i64.wrap (x8+1)) b3 b4 (Val.mk b7.kind b7.n b7.step b7.text b7.list b7.columns (b7.rows++ [(Rowd.mk r1.1 [])]))) else none))) none) (some b7)
def Kf(N:Nat)(a0 a1:Val):Option Val:=(Ct N [a0.re,a1.re] [2,3]).bind fun r1=>cond r1.2 (some r1.1) ((Ke N a0.text 32).bind fun r2=>(NI N r2).bind fun r3=>cond (!r3) ((AK N 7).bind fun r4=>some r4) (EY N N 0 a1 (Val.mk 0 0 0 [] [] [] []) (Val.mk 5 0 0 [] [] r2 [])))
def Ix(a0 a1 a2:Val):List Arg:=[.val (vV .ro a0),.val (vV .ro a1),.val (vV .ro a2)]
def EZ(N:Nat):Nat->Int->Int->Val->Val->Val->Val->Option Val
 |0,_,_,_,_,_,_=>none
 |n+1,x9,x11,b4,b5,b6,b10=>cond (decide (x11<b5.rows.length)) (ite (0<=x11/\x11<b5.rows.length) (if(0:Int)<=x9/\x9<(List.length (Rowd.cells (b5.rows.getD x11.toNat Ty.row.dflt))) then cond (((List.getD (Rowd.cells (b5.rows.getD x11.toNat Ty.row.dflt)) x9.toNat Di):Int)==b4.n) ((Kq N (b5.rows.getD x11.toNat Ty.row.dflt)).bind fun r1=>if b10.rows.length+ [r1].length<=Lim then(EZ N n x9 (i64.wrap (x11+1)) b4 b5 b6 (Val.mk b10.kind b10.n b10.step b10.text b10.list b10.columns (b10.rows++ [r1]))) else none) (EZ N n x9 (i64.wrap (x11+1)) b4 b5 b6 b10) else none) none) (some b10)
def Iw(N:Nat)(a0 a1 a2:Val):Option Val:=(Ct N [a0.re,a1.re,a2.re] [2,1,5]).bind fun r1=>cond r1.2 (some r1.1) ((C0 N a2 a0.text).bind fun r2=>cond (decide (r2<0)) ((AK N 7).bind fun r3=>some r3) (if 0+a2.columns.length<=Lim then(EZ N N r2 0 a1 a2 (Val.mk 0 0 0 [] [] [] []) (Val.mk 5 0 0 [] [] ([]++a2.columns) [])) else none))
def Ku(a0 a1:List Org):List Arg:=[.val (vS .ro .org a0),.val (vS .ro .org a1)]
def NS(r:(List Org)):CallO:=cO (vS .own .org r)
def Bf(N:Nat):Nat->List Org->List Org->List Org->Int->Int->Option (List Org)
 |0,_,_,_,_,_=>none
 |n+1,x0,x1,x5,x6,x7=>cond (decide (x6<x0.length)) (cond (x7==(x1.length:Int)) (ite (0<=x6/\x6<x0.length) (if x5.length+ [(x0.getD x6.toNat Do)].length<=Lim then(Bf N n x0 x1 (x5++ [(x0.getD x6.toNat Do)]) (i64.wrap (x6+1)) x7) else none) none) (ite (0<=x6/\x6<x0.length) (ite (0<=x7/\x7<x1.length) ((HV N (x0.getD x6.toNat Do) (x1.getD x7.toNat Do)).bind fun r1=>cond r1 (if x5.length+ [(x0.getD x6.toNat Do)].length<=Lim then(Bf N n x0 x1 (x5++ [(x0.getD x6.toNat Do)]) (i64.wrap (x6+1)) x7) else none) (cond (x6==(x0.length:Int)) (if x5.length+ [(x1.getD x7.toNat Do)].length<=Lim then(Bf N n x0 x1 (x5++ [(x1.getD x7.toNat Do)]) x6 (i64.wrap (x7+1))) else none) ((HV N (x1.getD x7.toNat Do) (x0.getD x6.toNat Do)).bind fun r2=>cond r2 (if x5.length+ [(x1.getD x7.toNat Do)].length<=Lim then(Bf N n x0 x1 (x5++ [(x1.getD x7.toNat Do)]) x6 (i64.wrap (x7+1))) else none) (if x5.length+ [(x0.getD x6.toNat Do)].length<=Lim then(Bf N n x0 x1 (x5++ [(x0.getD x6.toNat Do)]) (i64.wrap (x6+1)) (i64.wrap (x7+1))) else none)))) none) none)) (cond (decide (x7<x1.length)) (cond (x7==(x1.length:Int)) (ite (0<=x6/\x6<x0.length) (if x5.length+ [(x0.getD x6.toNat Do)].length<=Lim then(Bf N n x0 x1 (x5++ [(x0.getD x6.toNat Do)]) (i64.wrap (x6+1)) x7) else none) none) (cond (x6==(x0.length:Int)) (ite (0<=x7/\x7<x1.length) (if x5.length+ [(x1.getD x7.toNat Do)].length<=Lim then(Bf N n x0 x1 (x5++ [(x1.getD x7.toNat Do)]) x6 (i64.wrap (x7+1))) else none) none) (ite (0<=x7/\x7<x1.length) (ite (0<=x6/\x6<x0.length) ((HV N (x1.getD x7.toNat Do) (x0.getD x6.toNat Do)).bind fun r1=>cond r1 (if x5.length+ [(x1.getD x7.toNat Do)].length<=Lim then(Bf N n x0 x1 (x5++ [(x1.getD x7.toNat Do)]) x6 (i64.wrap (x7+1))) else none) (if x5.length+ [(x0.getD x6.toNat Do)].length<=Lim then(Bf N n x0 x1 (x5++ [(x0.getD x6.toNat Do)]) (i64.wrap (x6+1)) (i64.wrap (x7+1))) else none)) none) none))) (some x5))
def Kt(N:Nat)(a0 a1:List Org):Option (List Org):=Bf N N a0 a1 [] 0 0
def xAY(r:(List Rowd)):CallO:=cO (vS .tip .row r)
def CN(N:Nat):Nat->List Rowd->Int->Int->List Org->List Rowd->Bool->Int->Option (List Rowd)
 |0,_,_,_,_,_,_,_=>none
 |n+1,x0,x1,x2,x3,x9,x10,x11=>cond (decide (x11<x0.length)) (ite (0<=x11/\x11<x0.length) (if(0:Int)<=0/\(0:Int)<(List.length (Rowd.cells (x0.getD x11.toNat Ty.row.dflt))) then cond (((List.getD (Rowd.cells (x0.getD x11.toNat Ty.row.dflt)) (Int.toNat 0) Di):Int)==x1) (if(0:Int)<=1/\(1:Int)<(List.length (Rowd.cells (x0.getD x11.toNat Ty.row.dflt))) then(Kt N (Rowd.frm (x0.getD x11.toNat Ty.row.dflt)) x3).bind fun r1=>if(0:Int)<=0/\(0:Int)<([x1,(i64.wrap ((List.getD (Rowd.cells (x0.getD x11.toNat Ty.row.dflt)) (Int.toNat 1) Di)+x2))].length) then cond (decide (((List.getD [x1,(i64.wrap ((List.getD (Rowd.cells (x0.getD x11.toNat Ty.row.dflt)) (Int.toNat 1) Di)+x2))] (Int.toNat 0) Di):Int)>x1)) (if x9.length+List.length [(Rowd.mk [x1,(i64.wrap ((List.getD (Rowd.cells (x0.getD x11.toNat Ty.row.dflt)) (Int.toNat 1) Di)+x2))] r1)]<=Lim then(CN N n x0 x1 x2 x3 (x9++ [(Rowd.mk [x1,(i64.wrap ((List.getD (Rowd.cells (x0.getD x11.toNat Ty.row.dflt)) (Int.toNat 1) Di)+x2))] r1)]) true (i64.wrap (x11+1))) else none) (if x9.length+List.length [(Rowd.mk [x1,(i64.wrap ((List.getD (Rowd.cells (x0.getD x11.toNat Ty.row.dflt)) (Int.toNat 1) Di)+x2))] r1)]<=Lim then(CN N n x0 x1 x2 x3 (x9++ [(Rowd.mk [x1,(i64.wrap ((List.getD (Rowd.cells (x0.getD x11.toNat Ty.row.dflt)) (Int.toNat 1) Di)+x2))] r1)]) true (i64.wrap (x11+1))) else none) else none else none) (cond (decide (((List.getD (Rowd.cells (x0.getD x11.toNat Ty.row.dflt)) (Int.toNat 0) Di):Int)>x1)) (cond (!x10) (if 0+x3.length<=Lim then if x9.length+List.length [(Rowd.mk [x1,x2] ([]++x3))]<=Lim then if List.length (x9++ [(Rowd.mk [x1,x2] ([]++x3))])+ [(x0.getD x11.toNat Ty.row.dflt)].length<=Lim then(CN N n x0 x1 x2 x3 ((x9++ [(Rowd.mk [x1,x2] ([]++x3))])++ [(x0.getD x11.toNat Ty.row.dflt)]) true (i64.wrap (x11+1))) else none else none else none) (if x9.length+ [(x0.getD x11.toNat Ty.row.dflt)].length<=Lim then(CN N n x0 x1 x2 x3 (x9++ [(x0.getD x11.toNat Ty.row.dflt)]) x10 (i64.wrap (x11+1))) else none)) (if x9.length+ [(x0.getD x11.toNat Ty.row.dflt)].length<=Lim then(CN N n x0 x1 x2 x3 (x9++ [(x0.getD x11.toNat Ty.row.dflt)]) x10 (i64.wrap (x11+1))) else none)) else none) none) (cond (!x10) (if 0+x3.length<=Lim then if x9.length+List.length [(Rowd.mk [x1,x2] ([]++x3))]<=Lim then some (x9++ [(Rowd.mk [x1,x2] ([]++x3))]) else none else none) (some x9))
def Ph(N:Nat)(a0:List Rowd)(a1 a2:Int)(a3:List Org):Option (List Rowd):=CN N N a0 a1 a2 a3 [] false 0
def FZ(N:Nat):Nat->Int->Val->Val->Option Val
 |0,_,_,_=>none
 |n+1,x13,b6,b11=>cond (decide (x13<b11.rows.length)) (ite (0<=x13/\x13<b11.rows.length) (if(0:Int)<=1/\(1:Int)<(List.length (Rowd.cells (b11.rows.getD x13.toNat Ty.row.dflt))) then(Cs N (List.getD (Rowd.cells (b11.rows.getD x13.toNat Ty.row.dflt)) (Int.toNat 1) Di)).bind fun r1=>cond (!r1) ((AK N 5).bind fun r2=>some r2) (FZ N n (i64.wrap (x13+1)) b6 b11) else none) none) (some b11)
def HC(N:Nat):Nat->Int->Int->Int->Val->Val->Val->Option Val
 |0,_,_,_,_,_,_=>none
 |n+1,x9,x10,x12,b5,b6,b11=>cond (decide (x12<b5.rows.length)) (ite (0<=x12/\x12<b5.rows.length) (if(0:Int)<=x9/\x9<(List.length (Rowd.cells (b5.rows.getD x12.toNat Ty.row.dflt))) then if(0:Int)<=x10/\x10<(List.length (Rowd.cells (b5.rows.getD x12.toNat Ty.row.dflt))) then(Ph N b11.rows (List.getD (Rowd.cells (b5.rows.getD x12.toNat Ty.row.dflt)) x9.toNat Di) (List.getD (Rowd.cells (b5.rows.getD x12.toNat Ty.row.dflt)) x10.toNat Di) (Rowd.frm (b5.rows.getD x12.toNat Ty.row.dflt))).bind fun r1=>(HC N n x9 x10 (i64.wrap (x12+1)) b5 b6 (Val.mk b11.kind b11.n b11.step b11.text b11.list b11.columns r1)) else none else none) none) (FZ N N 0 b6 b11)
def FY(N:Nat)(a0 a1 a2:Val):Option Val:=(Ct N [a0.re,a1.re,a2.re] [2,2,5]).bind fun r1=>cond r1.2 (some r1.1) ((C0 N a2 a0.text).bind fun r2=>(C0 N a2 a1.text).bind fun r3=>cond (decide (r2<0)) ((AK N 7).bind fun r4=>some r4) (cond (decide (r3<0)) ((AK N 7).bind fun r4=>some r4) (cond (r2==r3) ((AK N 7).bind fun r4=>some r4) (HC N N r2 r3 0 a2 (Val.mk 0 0 0 [] [] [] []) (Val.mk 5 0 0 [] [] [a0.text,a1.text] [])))))
def NQ(N:Nat)(a0 a1:Rowd)(a2:Int):Option Rowd:=if 0+a0.cells.length<=Lim then(Kt N a0.frm a1.frm).bind fun r1=>if(0:Int)<=a2/\a2<=a1.cells.length then if List.length ([]++a0.cells)+List.length (List.take a2.toNat a1.cells)<=Lim then if(0:Int)<=(i64.wrap (a2+1))/\(i64.wrap (a2+1))<=a1.cells.length then if List.length (([]++a0.cells)++(List.take a2.toNat a1.cells))+List.length (List.drop (Int.toNat (i64.wrap (a2+1))) a1.cells)<=Lim then some (Rowd.mk ((([]++a0.cells)++(List.take a2.toNat a1.cells))++(List.drop (Int.toNat (i64.wrap (a2+1))) a1.cells)) r1) else none else none else none else none else none
def HF(N:Nat)(k15:Int->Int->Int->Val->Val->Val->Val->Option Val):Nat->Int->Int->Int->Int->Val->Val->Val->Val->Option Val
 |0,_,_,_,_,_,_,_,_=>none
 |n+1,x9,x10,x12,x13,b4,b5,b6,b11=>cond (decide (x13<b5.rows.length)) (ite (0<=x12/\x12<b4.rows.length) (if(0:Int)<=x9/\x9<(List.length (Rowd.cells (b4.rows.getD x12.toNat Ty.row.dflt))) then ite (0<=x13/\x13<b5.rows.length) (if(0:Int)<=x10/\x10<(List.length (Rowd.cells (b5.rows.getD x13.toNat Ty.row.dflt))) then cond (((List.getD (Rowd.cells (b4.rows.getD x12.toNat Ty.row.dflt)) x9.toNat Di):Int)==(List.getD (Rowd.cells (b5.rows.getD x13.toNat Ty.row.dflt)) x10.toNat Di)) ((NQ N (b4.rows.getD x12.toNat Ty.row.dflt) (b5.rows.getD x13.toNat Ty.row.dflt) x10).bind fun r1=>if b11.rows.length+ [r1].length<=Lim then(HF N k15 n x9 x10 x12 (i64.wrap (x13+1)) b4 b5 b6 (Val.mk b11.kind b11.n b11.step b11.text b11.list b11.columns (b11.rows++ [r1]))) else none) (HF N k15 n x9 x10 x12 (i64.wrap (x13+1)) b4 b5 b6 b11) else none) none else none) none) (k15 x9 x10 (i64.wrap (x12+1)) b4 b5 b6 b11)
def F7(N:Nat):Nat->Int->Int->Int->Val->Val->Val->Val->Option Val
 |0,_,_,_,_,_,_,_=>none
 |n+1,x9,x10,x12,b4,b5,b6,b11=>cond (decide (x12<b4.rows.length)) (HF N (fun z0 z1 z2 z3 z4 z5 z6=>(F7 N n z0 z1 z2 z3 z4 z5 z6)) N x9 x10 x12 0 b4 b5 b6 b11) (cond (decide ((b11.rows.length:Int)>12)) ((AK N 6).bind fun r1=>some r1) (some b11))
def HE(N:Nat)(a0 a1 a2:Val):Option Val:=(Ct N [a0.re,a1.re,a2.re] [2,5,5]).bind fun r1=>cond r1.2 (some r1.1) ((C0 N a1 a0.text).bind fun r2=>(C0 N a2 a0.text).bind fun r3=>cond (decide (r2<0)) ((AK N 7).bind fun r4=>some r4) (cond (decide (r3<0)) ((AK N 7).bind fun r4=>some r4) (if 0+a1.columns.length<=Lim then if(0:Int)<=r3/\r3<=a2.columns.length then if List.length ([]++a1.columns)+List.length (List.take r3.toNat a2.columns)<=Lim then if(0:Int)<=(i64.wrap (r3+1))/\(i64.wrap (r3+1))<=a2.columns.length then if List.length (([]++a1.columns)++(List.take r3.toNat a2.columns))+List.length (List.drop (Int.toNat (i64.wrap (r3+1))) a2.columns)<=Lim then(KZ N ((([]++a1.columns)++(List.take r3.toNat a2.columns))++(List.drop (Int.toNat (i64.wrap (r3+1))) a2.columns))).bind fun r4=>cond (!r4) ((AK N 7).bind fun r5=>some r5) (cond (decide ((List.length ((([]++a1.columns)++(List.take r3.toNat a2.columns))++(List.drop (Int.toNat (i64.wrap (r3+1))) a2.columns)):Int)>4)) ((AK N 6).bind fun r5=>some r5) (F7 N N r2 r3 0 a1 a2 (Val.mk 0 0 0 [] [] [] []) (Val.mk 5 0 0 [] [] ((([]++a1.columns)++(List.take r3.toNat a2.columns))++(List.drop (Int.toNat (i64.wrap (r3+1))) a2.columns)) []))) else none else none else none else none else none)))
def FX(N:Nat):Nat->Int->Int->Int->Val->Val->Val->Option Val
 |0,_,_,_,_,_,_=>none
 |n+1,x11,x12,x14,b7,b8,b13=>cond (decide (x14<b13.rows.length)) (ite (0<=x14/\x14<b7.rows.length) (if(0:Int)<=x11/\x11<(List.length (Rowd.cells (b7.rows.getD x14.toNat Ty.row.dflt))) then if(0:Int)<=x12/\x12<(List.length (Rowd.cells (b7.rows.getD x14.toNat Ty.row.dflt))) then(Cs N (i64.wrap ((List.getD (Rowd.cells (b7.rows.getD x14.toNat Ty.row.dflt)) x11.toNat Di)+(List.getD (Rowd.cells (b7.rows.getD x14.toNat Ty.row.dflt)) x12.toNat Di)))).bind fun r1=>cond (!r1) ((AK N 5).bind fun r2=>some r2) (ite (0<=x14/\x14<b13.rows.length) (if List.length (Rowd.cells (b13.rows.getD x14.toNat Ty.row.dflt))+ [(i64.wrap ((List.getD (Rowd.cells (b7.rows.getD x14.toNat Ty.row.dflt)) x11.toNat Di)+(List.getD (Rowd.cells (b7.rows.getD x14.toNat Ty.row.dflt)) x12.toNat Di)))].length<=Lim then(FX N n x11 x12 (i64.wrap (x14+1)) b7 b8 (Val.mk b13.kind b13.n b13.step b13.text b13.list b13.columns (b13.rows.set x14.toNat (Rowd.mk ((Rowd.cells (b13.rows.getD x14.toNat Ty.row.dflt))++ [(i64.wrap ((List.getD (Rowd.cells (b7.rows.getD x14.toNat Ty.row.dflt)) x11.toNat Di)+(List.getD (Rowd.cells (b7.rows.getD x14.toNat Ty.row.dflt)) x12.toNat Di)))]) (Rowd.frm (b13.rows.getD x14.toNat Ty.row.dflt)))))) else none) none) else none else none) none) (some b13)
def Da(N:Nat)(a0 a1 a2 a3:Val):Option Val:=(Ct N [a0.re,a1.re,a2.re,a3.re] [2,2,2,5]).bind fun r1=>cond r1.2 (some r1.1) ((C0 N a3 a1.text).bind fun r2=>(C0 N a3 a2.text).bind fun r3=>(F5 N a0.text).bind fun r4=>cond (!r4) ((AK N 7).bind fun r5=>some r5) ((C0 N a3 a0.text).bind fun r5=>cond (decide (r5>=0)) ((AK N 7).bind fun r6=>some r6) (cond (decide (r2<0)) ((AK N 7).bind fun r6=>some r6) (cond (decide (r3<0)) ((AK N 7).bind fun r6=>some r6) (cond ((a3.columns.length:Int)==4) ((AK N 6).bind fun r6=>some r6) ((B1 N a3).bind fun r6=>if r6.columns.length+ [a0.text].length<=Lim then(FX N N r2 r3 0 a3 (Val.mk 0 0 0 [] [] [] []) (Val.mk r6.kind r6.n r6.step r6.text r6.list (r6.columns++ [a0.text]) r6.rows)) else none))))))
def Dc(N:Nat)(a0:Str)(a1:List Val):Option Val:=(Db N a0).bind fun r1=>cond ((a1.length:Int) != r1) ((AK N 4).bind fun r2=>some r2) (cond (a0== [108,101,110]) (if(0:Int)<=0/\(0:Int)<a1.length then(Mj N (a1.getD (Int.toNat 0) Dv)).bind fun r2=>some r2 else none) (cond (a0== [115,117,109]) (if(0:Int)<=0/\(0:Int)<a1.length then(Mo N (a1.getD (Int.toNat 0) Dv)).bind fun r2=>some r2 else none) (cond (a0== [114,111,119,115]) (if(0:Int)<=0/\(0:Int)<a1.length then(M9 N (a1.getD (Int.toNat 0) Dv)).bind fun r2=>some r2 else none) (cond (a0== [116,97,107,101]) (if(0:Int)<=0/\(0:Int)<a1.length then if(0:Int)<=1/\(1:Int)<a1.length then(HI N (a1.getD (Int.toNat 0) Dv) (a1.getD (Int.toNat 1) Dv)).bind fun r2=>some r2 else none else none) (cond (a0== [115,107,105,112]) (if(0:Int)<=0/\(0:Int)<a1.length then if(0:Int)<=1/\(1:Int)<a1.length then(HH N (a1.getD (Int.toNat 0) Dv) (a1.getD (Int.toNat 1) Dv)).bind fun r2=>some r2 else none else none) (cond (a0== [110,116,104]) (if(0:Int)<=0/\(0:Int)<a1.length then if(0:Int)<=1/\(1:Int)<a1.length then(CL N (a1.getD (Int.toNat 0) Dv) (a1.getD (Int.toNat 1) Dv)).bind fun r2=>some r2 else none else none) (cond (a0== [114,97,110,103,101]) (if(0:Int)<=0/\(0:Int)<a1.length then if(0:Int)<=1/\(1:Int)<a1.length then(Mx N (a1.getD (Int.toNat 0) Dv) (a1.getD (Int.toNat 1) Dv)).bind fun r2=>some r2 else none else none) (cond (a0== [107,101,101,112]) (if(0:Int)<=0/\(0:Int)<a1.length then if(0:Int)<=1/\(1:Int)<a1.length then(Kb N (a1.getD (Int.toNat 0) Dv) (a1.getD (Int.toNat 1) Dv)).bind fun r2=>some r2 else none else none) (cond (a0== [99,111,108,117,109,110]) (if(0:Int)<=0/\(0:Int)<a1.length then if(0:Int)<=1/\(1:Int)<a1.length then(Ih N (a1.getD (Int.toNat 0) Dv) (a1.getD (Int.toNat 1) Dv)).bind fun r2=>some r2 else none else none) (cond (a0== [116,97,98,108,101]) (if(0:Int)<=0/\(0:Int)<a1.length then if(0:Int)<=1/\(1:Int)<a1.length then(Kf N (a1.getD (Int.toNat 0) Dv) (a1.getD (Int.toNat 1) Dv)).bind fun r2=>some r2 else none else none) (cond (a0== [119,104,101,114,101]) (if(0:Int)<=0/\(0:Int)<a1.length then if(0:Int)<=1/\(1:Int)<a1.length then if(0:Int)<=2/\(2:Int)<a1.length then(Iw N (a1.getD (Int.toNat 0) Dv) (a1.getD (Int.toNat 1) Dv) (a1.getD (Int.toNat 2) Dv)).bind fun r2=>some r2 else none else none else none) (cond (a0== [103,114,111,117,112]) (if(0:Int)<=0/\(0:Int)<a1.length then if(0:Int)<=1/\(1:Int)<a1.length then if(0:Int)<=2/\(2:Int)<a1.length then(FY N (a1.getD (Int.toNat 0) Dv) (a1.getD (Int.toNat 1) Dv) (a1.getD (Int.toNat 2) Dv)).bind fun r2=>some r2 else none else none else none) (cond (a0== [106,111,105,110]) (if(0:Int)<=0/\(0:Int)<a1.length then if(0:Int)<=1/\(1:Int)<a1.length then if(0:Int)<=2/\(2:Int)<a1.length then(HE N (a1.getD (Int.toNat 0) Dv) (a1.getD (Int.toNat 1) Dv) (a1.getD (Int.toNat 2) Dv)).bind fun r2=>some r2 else none else none else none) (cond (a0== [97,100,100]) (if(0:Int)<=0/\(0:Int)<a1.length then if(0:Int)<=1/\(1:Int)<a1.length then if(0:Int)<=2/\(2:Int)<a1.length then if(0:Int)<=3/\(3:Int)<a1.length then(Da N (a1.getD (Int.toNat 0) Dv) (a1.getD (Int.toNat 1) Dv) (a1.getD (Int.toNat 2) Dv) (a1.getD (Int.toNat 3) Dv)).bind fun r2=>some r2 else none else none else none else none) ((AK N 4).bind fun r2=>some r2)))))))))))))))
def ND(N:Nat)(a0 a1:Rea):Option Bool:=cond (a0.kind==a1.kind) (cond (a0.n==a1.n) (cond (a0.text==a1.text) (some (a0.time==a1.time)) (some false)) (some false)) (some false)
def HB(N:Nat):Nat->List Rea->Int->Rea->Val->Option (Val×Bool)
 |0,_,_,_,_=>none
 |n+1,x0,x6,b3,b4=>cond (decide (x6<x0.length)) (ite (0<=x6/\x6<x0.length) ((ND N (x0.getD x6.toNat Ty.rea.dflt) b3).bind fun r1=>cond r1 ((B1 N (Rea.result (x0.getD x6.toNat Ty.rea.dflt))).bind fun r2=>some (r2,true)) (HB N n x0 (i64.wrap (x6+1)) b3 b4)) none) (some ((Val.mk 0 0 0 [] [] [] []),false))
def PH(N:Nat)(a0:List Rea)(a1:Rea):Option (Val×Bool):=HB N N a0 0 a1 (Val.mk 0 0 0 [] [] [] [])
def Kl(N:Nat)(a0:Int):Option Int:=cond (decide ((Int.tmod a0 2147483647)<0)) (some (i64.wrap ((Int.tmod a0 2147483647)+2147483647))) (some (Int.tmod a0 2147483647))
def Ml(N:Nat)(a0 a1 a2 a3:Int):Option Int:=(Kl N (i64.wrap ((i64.wrap ((i64.wrap ((i64.wrap (48271*a0))+(i64.wrap (7919*a1))))+(i64.wrap (104729*a2))))+(i64.wrap (1299709*a3))))).bind fun r1=>(Kl N (i64.wrap (16807*r1))).bind fun r2=>some r2
def Me(r:Int×Bool):CallO:=⟨.tup [(false,[.int .i64 r.1]),(false,[.bool r.2])],[],[]⟩
def HA(N:Nat):Nat->Str->Int->Wld->Option (Int×Bool)
 |0,_,_,_=>none
 |n+1,x1,x6,b2=>cond (decide (x6<b2.files.length)) (ite (0<=x6/\x6<b2.files.length) (cond (((Fil.name (b2.files.getD x6.toNat Ty.fil.dflt)):Str)==x1) (some ((Fil.n (b2.files.getD x6.toNat Ty.fil.dflt)),true)) (HA N n x1 (i64.wrap (x6+1)) b2)) none) (some (0,false))
def PG(N:Nat)(a0:Wld)(a1:Str):Option (Int×Bool):=HA N N a1 0 a0
def Gz(N:Nat)(a0:Wld)(a1 a2:Int)(a3:Rea):Option Val:=cond (a3.kind==1) ((Cs N a0.clock).bind fun r1=>cond r1 ((A6 N a0.clock).bind fun r2=>some r2) ((AK N 4).bind fun r2=>some r2)) (cond (a3.kind==2) ((Dj N a3.n 1 1000000000).bind fun r1=>cond (!r1) ((AK N 5).bind fun r2=>some r2) ((Ml N a0.seed a1 a2 a3.time).bind fun r2=>if a3.n≠(0:Int) then(A6 N (Int.tmod r2 a3.n)).bind fun r3=>some r3 else none)) (cond (a3.kind==3) ((PG N a0 a3.text).bind fun r1=>cond (!r1.2) ((AK N 1).bind fun r2=>some r2) ((Cs N r1.1).bind fun r2=>cond r2 ((A6 N r1.1).bind fun r3=>some r3) ((AK N 4).bind fun r3=>some r3))) ((AK N 4).bind fun r1=>some r1)))
def Dh(r:Val×Mch):CallO:=⟨(vV .ro r.1),[(Mc .tip r.2)],[]⟩
def E7(N:Nat):Nat->Int->Mch->Rea->Val->Option (Val×Mch)
 |0,_,_,_,_=>none
 |n+1,x5,b0,b3,b4=>cond (decide (x5<b0.reads.length)) (ite (0<=x5/\x5<b0.reads.length) (cond (((Rea.kind (b0.reads.getD x5.toNat Ty.rea.dflt)):Int)==b3.kind) (cond (((Rea.n (b0.reads.getD x5.toNat Ty.rea.dflt)):Int)==b3.n) (cond (((Rea.text (b0.reads.getD x5.toNat Ty.rea.dflt)):Str)==b3.text) (E7 N n (i64.wrap (x5+1)) b0 (Rea.mk b3.kind b3.n (i64.wrap (b3.time+1)) b3.text b3.result) b4) (E7 N n (i64.wrap (x5+1)) b0 b3 b4)) (E7 N n (i64.wrap (x5+1)) b0 b3 b4)) (E7 N n (i64.wrap (x5+1)) b0 b3 b4)) none) ((PH N b0.tape b3).bind fun r1=>cond (!r1.2) ((Gz N b0.w b0.cell b0.version b3).bind fun r2=>if b0.reads.length+ [(Rea.mk b3.kind b3.n b3.time b3.text r2.re)].length<=Lim then some (r2,(Mch.mk b0.tape b0.w b0.cell b0.version (b0.reads++ [(Rea.mk b3.kind b3.n b3.time b3.text r2.re)]) b0.steps b0.over)) else none) (if b0.reads.length+ [(Rea.mk b3.kind b3.n b3.time b3.text r1.1.re)].length<=Lim then some (r1.1,(Mch.mk b0.tape b0.w b0.cell b0.version (b0.reads++ [(Rea.mk b3.kind b3.n b3.time b3.text r1.1.re)]) b0.steps b0.over)) else none))
def E6(N:Nat)(a0:Mch)(a1:Rea):Option (Val×Mch):=E7 N N 0 a0 a1 (Val.mk 0 0 0 [] [] [] [])
def M8(r:(List Bnd)):CallO:=cO (vS .own .bnd r)
def Ig(N:Nat):Nat->List Bnd->Str->List Bnd->Int->Val->Option (List Bnd)
 |0,_,_,_,_,_=>none
 |n+1,x0,x1,x7,x8,b5=>cond (decide (x8<x0.length)) (ite (0<=x8/\x8<x0.length) ((B1 N (Bnd.value (x0.getD x8.toNat Ty.bnd.dflt))).bind fun r1=>if x7.length+ [(Bnd.mk (Bnd.name (x0.getD x8.toNat Ty.bnd.dflt)) r1.re)].length<=Lim then(Ig N n x0 x1 (x7++ [(Bnd.mk (Bnd.name (x0.getD x8.toNat Ty.bnd.dflt)) r1.re)]) (i64.wrap (x8+1)) b5) else none) none) ((B1 N b5).bind fun r1=>if x7.length+ [(Bnd.mk x1 r1.re)].length<=Lim then some (x7++ [(Bnd.mk x1 r1.re)]) else none)
def K6(N:Nat)(a0:List Bnd)(a1:Str)(a2:Val):Option (List Bnd):=Ig N N a0 a1 [] 0 a2
def PJ(N:Nat)(a0:Val):Option Bool:=cond (a0.kind==1) (some (a0.n != 0)) (some false)
def JU(N:Nat)(a0 a1:Val):Option Val:=cond (a0.kind==1) (cond (a1.kind==1) ((Dd N (i64.wrap (a0.n+a1.n))).bind fun r1=>some r1) ((AK N 4).bind fun r1=>some r1)) (cond (a0.kind==2) (cond (a1.kind==2) (cond (decide (((i64.wrap ((a0.text.length:Int)+(a1.text.length:Int))):Int)>20)) ((AK N 6).bind fun r1=>some r1) (if a0.text.length+a1.text.length<=Lim then(Df N (a0.text++a1.text)).bind fun r1=>some r1 else none)) ((AK N 4).bind fun r1=>some r1)) (cond (a0.kind==3) (cond (a1.kind==3) (cond (decide (((i64.wrap ((a0.list.length:Int)+(a1.list.length:Int))):Int)>8)) ((AK N 6).bind fun r1=>some r1) (if 0+a0.list.length<=Lim then if List.length ([]++a0.list)+a1.list.length<=Lim then(Kc N (([]++a0.list)++a1.list)).bind fun r1=>some r1 else none else none)) ((AK N 4).bind fun r1=>some r1)) ((AK N 4).bind fun r1=>some r1)))
def Iu(N:Nat)(a0:Bool):Option Val:=cond a0 ((A6 N 1).bind fun r1=>some r1) ((A6 N 0).bind fun r1=>some r1)
def Ks(N:Nat)(a0 a1:Val):Option Val:=cond (a0.kind==1) (cond (a1.kind==1) ((Iu N (decide (a0.n<a1.n))).bind fun r1=>some r1) ((AK N 4).bind fun r1=>some r1)) (cond (a0.kind==2) (cond (a1.kind==2) ((Iu N (Op.bytesLess a0.text a1.text)).bind fun r1=>some r1) ((AK N 4).bind fun r1=>some r1)) ((AK N 4).bind fun r1=>some r1))
def Pf(a0 a1:List Str):List Arg:=[.val (vS .ro .str a0),.val (vS .ro .str a1)]
def Ec(N:Nat):Nat->List Str->List Str->Int->Option Bool
 |0,_,_,_=>none
 |n+1,x0,x1,x5=>cond (decide (x5<x0.length)) (ite (0<=x5/\x5<x0.length) (ite (0<=x5/\x5<x1.length) (cond (!(((x0.getD x5.toNat Ds):Str)==(x1.getD x5.toNat Ds))) (some false) (Ec N n x0 x1 (i64.wrap (x5+1)))) none) none) (some true)
def JT(N:Nat)(a0 a1:List Str):Option Bool:=cond ((a0.length:Int) != (a1.length:Int)) (some false) (Ec N N a0 a1 0)
def E8(N:Nat):Nat->List Int->List Int->Int->Option Bool
 |0,_,_,_=>none
 |n+1,x0,x1,x5=>cond (decide (x5<x0.length)) (ite (0<=x5/\x5<x0.length) (ite (0<=x5/\x5<x1.length) (cond ((x0.getD x5.toNat Di) != (x1.getD x5.toNat Di)) (some false) (E8 N n x0 x1 (i64.wrap (x5+1)))) none) none) (some true)
def JH(N:Nat)(a0 a1:List Int):Option Bool:=cond ((a0.length:Int) != (a1.length:Int)) (some false) (E8 N N a0 a1 0)
def JP(N:Nat):Nat->List Org->List Org->Int->Option Bool
 |0,_,_,_=>none
 |n+1,x0,x1,x5=>cond (decide (x5<x0.length)) (ite (0<=x5/\x5<x0.length) (ite (0<=x5/\x5<x1.length) (cond (!((((Org.cell (x0.getD x5.toNat Do)):Int)==(Org.cell (x1.getD x5.toNat Do)))&&(((Org.row (x0.getD x5.toNat Do)):Int)==(Org.row (x1.getD x5.toNat Do))))) (some false) (JP N n x0 x1 (i64.wrap (x5+1)))) none) none) (some true)
def NN(N:Nat)(a0 a1:List Org):Option Bool:=cond ((a0.length:Int) != (a1.length:Int)) (some false) (JP N N a0 a1 0)
def JQ(a0 a1:Val)(a2:Bool):List Arg:=[.val (vV .ro a0),.val (vV .ro a1),.val (vB a2)]
def Cd(N:Nat)(q0:Val->Val->Bool->Option Bool):Nat->Bool->Int->Val->Val->Option Bool
 |0,_,_,_,_=>none
 |n+1,x2,x8,b3,b4=>cond (decide (x8<b3.rows.length)) (ite (0<=x8/\x8<b3.rows.length) (ite (0<=x8/\x8<b4.rows.length) ((JH N (Rowd.cells (b3.rows.getD x8.toNat Ty.row.dflt)) (Rowd.cells (b4.rows.getD x8.toNat Ty.row.dflt))).bind fun r1=>cond (!r1) (some false) (cond x2 ((NN N (Rowd.frm (b3.rows.getD x8.toNat Ty.row.dflt)) (Rowd.frm (b4.rows.getD x8.toNat Ty.row.dflt))).bind fun r2=>cond (!r2) (some false) (Cd N q0 n x2 (i64.wrap (x8+1)) b3 b4)) (Cd N q0 n x2 (i64.wrap (x8+1)) b3 b4))) none) none) (some true)
def Dl(N:Nat)(q0:Val->Val->Bool->Option Bool):Nat->Bool->Int->Val->Val->Option Bool
 |0,_,_,_,_=>none
 |n+1,x2,x7,b3,b4=>cond (decide (x7<b3.list.length)) (ite (0<=x7/\x7<b3.list.length) (ite (0<=x7/\x7<b4.list.length) ((q0 (b3.list.getD x7.toNat Dv) (b4.list.getD x7.toNat Dv) x2).bind fun r1=>cond (!r1) (some false) (Dl N q0 n x2 (i64.wrap (x7+1)) b3 b4)) none) none) (Cd N q0 N x2 0 b3 b4)
def JR(N:Nat)(q0:Val->Val->Bool->Option Bool)(a0 a1:Val)(a2:Bool):Option Bool:=cond (a0.kind != a1.kind) (some false) (cond (a0.n != a1.n) (some false) (cond (a0.step != a1.step) (some false) (cond (!(a0.text==a1.text)) (some false) (cond ((a0.list.length:Int) != (a1.list.length:Int)) (some false) ((JT N a0.columns a1.columns).bind fun r1=>cond (!r1) (some false) (cond ((a0.rows.length:Int) != (a1.rows.length:Int)) (some false) (Dl N q0 N a2 0 a0 a1)))))))
def Bc(N:Nat):Nat->Val->Val->Bool->Option Bool
 |0,_,_,_=>none
 |d+1,a0,a1,a2=>JR N (Bc N d) a0 a1 a2
def Kr(N:Nat)(a0 a1:Val)(a2:Bool):Option Bool:=Bc N N a0 a1 a2
def Ik(N:Nat)(a0 a1:Val):Option Bool:=(Kr N a0 a1 false).bind fun r1=>some r1
def K0(N:Nat)(a0:Int)(a1 a2:Val):Option Val:=(Ed N [a1.re,a2.re]).bind fun r1=>cond r1.2 (some r1.1) (cond (a1.kind==1) (cond (a0==1) ((JU N a1 a2).bind fun r2=>some r2) (cond (a0==4) ((Ks N a1 a2).bind fun r2=>some r2) (cond (a0==5) ((Ik N a1 a2).bind fun r2=>(Iu N r2).bind fun r3=>some r3) (cond (a0==2) (cond (a2.kind==1) ((Dd N (i64.wrap (a1.n - a2.n))).bind fun r2=>some r2) ((AK N 4).bind fun r2=>some r2)) (cond (a0==3) (cond (a2.kind==1) ((Dd N (i64.wrap (a1.n*a2.n))).bind fun r2=>some r2) ((AK N 4).bind fun r2=>some r2)) ((AK N 4).bind fun r2=>some r2)))))) (cond (a0==1) ((JU N a1 a2).bind fun r2=>some r2) (cond (a0==4) ((Ks N a1 a2).bind fun r2=>some r2) (cond (a0==5) ((Ik N a1 a2).bind fun r2=>(Iu N r2).bind fun r3=>some r3) (cond (a0==2) ((AK N 4).bind fun r2=>some r2) (cond (a0==3) ((AK N 4).bind fun r2=>some r2) ((AK N 4).bind fun r2=>some r2)))))))
def PY(r:(List Val)×Mch):CallO:=⟨(vS .tip .val r.1),[(Mc .tip r.2)],[]⟩
def HO(N:Nat)(q0:Mch->List Exp->List Bnd->Option ((List Val)×Mch))(q1 q2 q3:Mch->Exp->List Bnd->Option (Val×Mch)):Nat->List Exp->List Bnd->List Val->Int->Mch->Option ((List Val)×Mch)
 |0,_,_,_,_,_=>none
 |n+1,x1,x2,x7,x8,b0=>cond (decide (x8<x1.length)) (cond (!b0.over) (ite (0<=x8/\x8<x1.length) ((q2 b0 (x1.getD x8.toNat Dx) x2).bind fun r1=>if x7.length+ [r1.1.re].length<=Lim then(HO N q0 q1 q2 q3 n x1 x2 (x7++ [r1.1.re]) (i64.wrap (x8+1)) r1.2) else none) none) (some (x7,b0))) (some (x7,b0))
def xAC(N:Nat)(q0:Mch->List Exp->List Bnd->Option ((List Val)×Mch))(q1 q2 q3:Mch->Exp->List Bnd->Option (Val×Mch))(a0:Mch)(a1:List Exp)(a2:List Bnd):Option ((List Val)×Mch):=HO N q0 q1 q2 q3 N a1 a2 [] 0 a0
def HP(a0:Mch)(a1:Exp)(a2:List Bnd):List Arg:=[.box (Mc .tip a0),.val (.v true (Ex .ro a1)),.val (vS .ro .bnd a2)]
def Mz(N:Nat)(q0:Mch->List Exp->List Bnd->Option ((List Val)×Mch))(q1 q2 q3:Mch->Exp->List Bnd->Option (Val×Mch))(a0:Mch)(a1:Exp)(a2:List Bnd):Option (Val×Mch):=(q0 a0 a1.args a2).bind fun r1=>cond r1.2.over (some ((Val.mk 0 0 0 [] [] [] []),r1.2)) ((HD N (Exp.mk 5 0 a1.text [])).bind fun r2=>cond (!r2) ((Dc N a1.text r1.1).bind fun r3=>some (r3,r1.2)) (cond ((r1.1.length:Int)==1) (if(0:Int)<=0/\(0:Int)<r1.1.length then cond (((Val.kind (r1.1.getD (Int.toNat 0) Dv)):Int)==6) (some ((r1.1.getD (Int.toNat 0) Dv),r1.2)) (cond (a1.text== [99,108,111,99,107]) ((E6 N r1.2 (Rea.mk 1 0 0 [] (Val.mk 0 0 0 [] [] [] []))).bind fun r3=>some (r3.1,r3.2)) (cond (a1.text== [99,104,97,110,99,101]) (cond (((Val.kind (r1.1.getD (Int.toNat 0) Dv)):Int)==1) ((E6 N r1.2 (Rea.mk 2 (Val.n (r1.1.getD (Int.toNat 0) Dv)) 0 [] (Val.mk 0 0 0 [] [] [] []))).bind fun r3=>some (r3.1,r3.2)) ((AK N 4).bind fun r3=>some (r3,r1.2))) (cond (((Val.kind (r1.1.getD (Int.toNat 0) Dv)):Int)==2) ((E6 N r1.2 (Rea.mk 3 0 0 (Val.text (r1.1.getD (Int.toNat 0) Dv)) (Val.mk 0 0 0 [] [] [] []))).bind fun r3=>some (r3.1,r3.2)) ((AK N 4).bind fun r3=>some (r3,r1.2))))) else none) (cond (a1.text== [99,108,111,99,107]) ((E6 N r1.2 (Rea.mk 1 0 0 [] (Val.mk 0 0 0 [] [] [] []))).bind fun r3=>some (r3.1,r3.2)) (cond (a1.text== [99,104,97,110,99,101]) (if(0:Int)<=0/\(0:Int)<r1.1.length then cond (((Val.kind (r1.1.getD (Int.toNat 0) Dv)):Int)==1) ((E6 N r1.2 (Rea.mk 2 (Val.n (r1.1.getD (Int.toNat 0) Dv)) 0 [] (Val.mk 0 0 0 [] [] [] []))).bind fun r3=>some (r3.1,r3.2)) ((AK N 4).bind fun r3=>some (r3,r1.2)) else none) (if(0:Int)<=0/\(0:Int)<r1.1.length then cond (((Val.kind (r1.1.getD (Int.toNat 0) Dv)):Int)==2) ((E6 N r1.2 (Rea.mk 3 0 0 (Val.text (r1.1.getD (Int.toNat 0) Dv)) (Val.mk 0 0 0 [] [] [] []))).bind fun r3=>some (r3.1,r3.2)) ((AK N 4).bind fun r3=>some (r3,r1.2)) else none)))))
def Bq(N:Nat)(q0:Mch->List Exp->List Bnd->Option ((List Val)×Mch))(q1 q2 q3:Mch->Exp->List Bnd->Option (Val×Mch))(a0:Mch)(a1:Exp)(a2:List Bnd):Option (Val×Mch):=cond a0.over (some ((Val.mk 0 0 0 [] [] [] []),(Mch.mk a0.tape a0.w a0.cell a0.version a0.reads a0.steps true))) (cond (a0.steps==200) (some ((Val.mk 0 0 0 [] [] [] []),(Mch.mk a0.tape a0.w a0.cell a0.version a0.reads a0.steps true))) (cond (a1.kind==1) ((A6 N a1.n).bind fun r1=>some (r1,(Mch.mk a0.tape a0.w a0.cell a0.version a0.reads (i64.wrap (a0.steps+1)) a0.over))) (cond (a1.kind==2) ((Df N a1.text).bind fun r1=>some (r1,(Mch.mk a0.tape a0.w a0.cell a0.version a0.reads (i64.wrap (a0.steps+1)) a0.over))) (cond (a1.kind==3) ((Mk N a2 a1.text).bind fun r1=>some (r1,(Mch.mk a0.tape a0.w a0.cell a0.version a0.reads (i64.wrap (a0.steps+1)) a0.over))) (cond (a1.kind==4) ((q0 (Mch.mk a0.tape a0.w a0.cell a0.version a0.reads (i64.wrap (a0.steps+1)) a0.over) a1.args a2).bind fun r1=>cond r1.2.over (some ((Val.mk 0 0 0 [] [] [] []),r1.2)) ((Gv N r1.1).bind fun r2=>some (r2,r1.2))) (cond (a1.kind==5) ((q1 (Mch.mk a0.tape a0.w a0.cell a0.version a0.reads (i64.wrap (a0.steps+1)) a0.over) a1 a2).bind fun r1=>some (r1.1,r1.2)) (cond (a1.kind==7) (if(0:Int)<=0/\(0:Int)<a1.args.length then(q2 (Mch.mk a0.tape a0.w a0.cell a0.version a0.reads (i64.wrap (a0.steps+1)) a0.over) (a1.args.getD (Int.toNat 0) Dx) a2).bind fun r1=>cond r1.2.over (some ((Val.mk 0 0 0 [] [] [] []),r1.2)) (if(0:Int)<=1/\(1:Int)<a1.args.length then(K6 N a2 a1.text r1.1).bind fun r2=>(q2 r1.2 (a1.args.getD (Int.toNat 1) Dx) r2).bind fun r3=>some (r3.1,r3.2) else none) else none) (cond (a1.kind==8) (if(0:Int)<=0/\(0:Int)<a1.args.length then(q2 (Mch.mk a0.tape a0.w a0.cell a0.version a0.reads (i64.wrap (a0.steps+1)) a0.over) (a1.args.getD (Int.toNat 0) Dx) a2).bind fun r1=>cond r1.2.over (some (r1.1,r1.2)) (cond (r1.1.kind==6) (some (r1.1,r1.2)) ((PJ N r1.1).bind fun r2=>cond r2 (if(0:Int)<=1/\(1:Int)<a1.args.length then(q2 r1.2 (a1.args.getD (Int.toNat 1) Dx) a2).bind fun r3=>some (r3.1,r3.2) else none) (if(0:Int)<=2/\(2:Int)<a1.args.length then(q2 r1.2 (a1.args.getD (Int.toNat 2) Dx) a2).bind fun r3=>some (r3.1,r3.2) else none))) else none) (cond (a1.kind==9) ((q3 (Mch.mk a0.tape a0.w a0.cell a0.version a0.reads (i64.wrap (a0.steps+1)) a0.over) a1 a2).bind fun r1=>some (r1.1,r1.2)) ((q0 (Mch.mk a0.tape a0.w a0.cell a0.version a0.reads (i64.wrap (a0.steps+1)) a0.over) a1.args a2).bind fun r1=>cond r1.2.over (some ((Val.mk 0 0 0 [] [] [] []),r1.2)) (if(0:Int)<=0/\(0:Int)<r1.1.length then if(0:Int)<=1/\(1:Int)<r1.1.length then(K0 N a1.n (r1.1.getD (Int.toNat 0) Dv) (r1.1.getD (Int.toNat 1) Dv)).bind fun r2=>some (r2,r1.2) else none else none)))))))))))
def DM(N:Nat)(q0:Mch->List Exp->List Bnd->Option ((List Val)×Mch))(q1 q2 q3:Mch->Exp->List Bnd->Option (Val×Mch)):Nat->List Bnd->List Val->Int->Mch->Exp->Val->Val->Option (Val×Mch)
 |0,_,_,_,_,_,_,_=>none
 |n+1,x2,x8,x9,b0,b4,b6,b7=>cond (decide (x9<b7.list.length)) (cond (!b0.over) (if(0:Int)<=1/\(1:Int)<b4.args.length then ite (0<=x9/\x9<b7.list.length) ((K6 N x2 b4.text (b7.list.getD x9.toNat Dv)).bind fun r1=>(q2 b0 (b4.args.getD (Int.toNat 1) Dx) r1).bind fun r2=>if x8.length+ [r2.1.re].length<=Lim then(DM N q0 q1 q2 q3 n x2 (x8++ [r2.1.re]) (i64.wrap (x9+1)) r2.2 b4 b6 b7) else none) none else none) (cond b0.over (some ((Val.mk 0 0 0 [] [] [] []),b0)) ((Gv N x8).bind fun r1=>some (r1,b0)))) (cond b0.over (some ((Val.mk 0 0 0 [] [] [] []),b0)) ((Gv N x8).bind fun r1=>some (r1,b0)))
def NB(N:Nat)(q0:Mch->List Exp->List Bnd->Option ((List Val)×Mch))(q1 q2 q3:Mch->Exp->List Bnd->Option (Val×Mch))(a0:Mch)(a1:Exp)(a2:List Bnd):Option (Val×Mch):=if(0:Int)<=0/\(0:Int)<a1.args.length then(q2 a0 (a1.args.getD (Int.toNat 0) Dx) a2).bind fun r1=>cond r1.2.over (some (r1.1,r1.2)) (cond (r1.1.kind==6) (some (r1.1,r1.2)) (cond (r1.1.kind != 3) ((AK N 4).bind fun r2=>some (r2,r1.2)) (DM N q0 q1 q2 q3 N a2 [] 0 r1.2 a1 (Val.mk 0 0 0 [] [] [] []) r1.1))) else none
structure Rq1 where
 c2:Mch->(List Exp)->(List Bnd)->Option ((List Val)×Mch)
 c3:Mch->Exp->(List Bnd)->Option (Val×Mch)
 c4:Mch->Exp->(List Bnd)->Option (Val×Mch)
 c5:Mch->Exp->(List Bnd)->Option (Val×Mch)
def BL(N:Nat):Nat->Rq1
 |0=>⟨fun _ _ _=>none,fun _ _ _=>none,fun _ _ _=>none,fun _ _ _=>none⟩
 |d+1=>⟨xAC N (BL N d).c2 (BL N d).c3 (BL N d).c4 (BL N d).c5,Mz N (BL N d).c2 (BL N d).c3 (BL N d).c4 (BL N d).c5,Bq N (BL N d).c2 (BL N d).c3 (BL N d).c4 (BL N d).c5,NB N (BL N d).c2 (BL N d).c3 (BL N d).c4 (BL N d).c5⟩
def PZ(N:Nat)(a0:Mch)(a1:Exp)(a2:List Bnd):Option (Val×Mch):=(BL N N).c4 a0 a1 a2
def xJU(r:Rea):CallO:=⟨.v true (Rc .own r),[],[]⟩
def P2(N:Nat)(a0:Rea):Option Rea:=(B1 N a0.result).bind fun r1=>some (Rea.mk a0.kind a0.n a0.time a0.text r1)
def xAE(r:(List Rea)):CallO:=cO (vS .own .rea r)
def JG(N:Nat):Nat->List Rea->List Rea->Int->Option (List Rea)
 |0,_,_,_=>none
 |n+1,x0,x3,x4=>cond (decide (x4<x0.length)) (ite (0<=x4/\x4<x0.length) ((P2 N (x0.getD x4.toNat Ty.rea.dflt)).bind fun r1=>if x3.length+ [(Rea.mk r1.kind r1.n r1.time r1.text (r1.result.re))].length<=Lim then(JG N n x0 (x3++ [(Rea.mk r1.kind r1.n r1.time r1.text (r1.result.re))]) (i64.wrap (x4+1))) else none) none) (some x3)
def NC(N:Nat)(a0:List Rea):Option (List Rea):=JG N N a0 [] 0
def Mb(r:Outc):CallO:=⟨.v true [.int .i64 (Val.kind (Outc.value r)),.int .i64 (Val.n (Outc.value r)),.int .i64 (Val.step (Outc.value r)),.str (Val.text (Outc.value r)),.sl .own .val (Val.list (Outc.value r)),.sl .own .str (Val.columns (Outc.value r)),.sl .own .row (Val.rows (Outc.value r)),.sl .own .rea (Outc.reads r),.int .i64 (Outc.steps r)],[],[]⟩
def PF(N:Nat)(x1:List Bnd)(b6:Exp)(b12:Outc)(b25:Mch):Option Outc:=(PZ N b25 b6 x1).bind fun r1=>cond r1.2.over ((AK N 6).bind fun r2=>(NC N r1.2.reads).bind fun r3=>some (Outc.mk r2 r3 200)) ((B1 N r1.1).bind fun r2=>(NC N r1.2.reads).bind fun r3=>some (Outc.mk r2 r3 r1.2.steps))
def K9(N:Nat)(a0:Exp)(a1:List Bnd)(a2:List Rea)(a3:Wld)(a4 a5:Int):Option Outc:=(Cr N a0).bind fun r1=>cond (!r1) ((AK N 4).bind fun r2=>some (Outc.mk r2 [] 0)) (PF N a1 a0 (Outc.mk (Val.mk 0 0 0 [] [] [] []) [] 0) (Mch.mk a2 a3 a4 a5 [] 0 false))
def GN(N:Nat)(q0:Exp->Option Int):Nat->Int->List Exp->Int->Int->Option Int
 |0,_,_,_,_=>none
 |n+1,x3,x7,x8,x9=>cond (decide (x9<x8)) (ite (0<=x9/\x9<x7.length) ((q0 (x7.getD x9.toNat Dx)).bind fun r1=>(GN N q0 n (i64.wrap (x3+r1)) x7 x8 (i64.wrap (x9+1)))) none) (some x3)
def TD(N:Nat)(q0:Exp->Option Int)(a0:Exp):Option Int:=GN N q0 N 1 a0.args (a0.args.length:Int) 0
def Hw(N:Nat):Nat->Exp->Option Int
 |0,_=>none
 |d+1,a0=>TD N (Hw N d) a0
def OL(N:Nat)(a0:Exp):Option Int:=Hw N N a0
def Hv(N:Nat)(q0:Exp->Option Int):Nat->Int->List Exp->Int->Int->Option Int
 |0,_,_,_,_=>none
 |n+1,x3,x7,x8,x9=>cond (decide (x9<x8)) (ite (0<=x9/\x9<x7.length) ((q0 (x7.getD x9.toNat Dx)).bind fun r1=>(Hv N q0 n (if r1>x3 then r1 else x3) x7 x8 (i64.wrap (x9+1)))) none) (some (i64.wrap (x3+1)))
def TB(N:Nat)(q0:Exp->Option Int)(a0:Exp):Option Int:=Hv N q0 N 0 a0.args (a0.args.length:Int) 0
def Js(N:Nat):Nat->Exp->Option Int
 |0,_=>none
 |d+1,a0=>TB N (Js N d) a0
def OK(N:Nat)(a0:Exp):Option Int:=Js N N a0
def Cm(N:Nat)(a0 a1 a2:Int):Option Bool:=cond (decide (a1<=a0)) (some (decide (a0<=a2))) (some false)
def Jo(N:Nat):Nat->Str->Int->Option Bool
 |0,_,_=>none
 |n+1,x0,x3=>cond (decide (x3<x0.length)) (ite (0<=x3/\x3<x0.length) (cond (decide (((x0.getD x3.toNat 0).toNat:Int)<32)) (some false) (cond (decide (((x0.getD x3.toNat 0).toNat:Int)>126)) (some false) (cond (((x0.getD x3.toNat 0).toNat:Int)==34) (some false) (Jo N n x0 (i64.wrap (x3+1)))))) none) (some (decide ((x0.length:Int)<=20)))
def Lk(N:Nat)(a0:Str):Option Bool:=Jo N N a0 0
def EB(N:Nat):Nat->Str->Int->Option Bool
 |0,_,_=>none
 |n+1,x0,x3=>cond (decide (x3<x0.length)) (ite (0<=x3/\x3<x0.length) (cond (decide (((x0.getD x3.toNat 0).toNat:Int)>=97)) (cond (!(decide (((x0.getD x3.toNat 0).toNat:Int)<=122))) (cond (x3==0) (some false) (cond (decide (((x0.getD x3.toNat 0).toNat:Int)<48)) (some false) (cond (decide (((x0.getD x3.toNat 0).toNat:Int)>57)) (some false) (EB N n x0 (i64.wrap (x3+1)))))) (EB N n x0 (i64.wrap (x3+1)))) (cond (x3==0) (some false) (cond (decide (((x0.getD x3.toNat 0).toNat:Int)<48)) (some false) (cond (decide (((x0.getD x3.toNat 0).toNat:Int)>57)) (some false) (EB N n x0 (i64.wrap (x3+1))))))) none) ((Cm N (x0.length:Int) 1 8).bind fun r1=>some r1)
def OT(N:Nat)(a0:Str):Option Bool:=EB N N a0 0
def GE(N:Nat)(a0:Str):Option Int:=cond (a0== [99,108,111,99,107]) (some 0) (cond (a0== [108,101,110]) (some 1) (cond (a0== [115,117,109]) (some 1) (cond (a0== [114,111,119,115]) (some 1) (cond (a0== [99,104,97,110,99,101]) (some 1) (cond (a0== [102,105,108,101]) (some 1) (cond (a0== [116,97,107,101]) (some 2) (cond (a0== [115,107,105,112]) (some 2) (cond (a0== [114,97,110,103,101]) (some 2) (cond (a0== [110,116,104]) (some 2) (cond (a0== [107,101,101,112]) (some 2) (cond (a0== [99,111,108,117,109,110]) (some 2) (cond (a0== [116,97,98,108,101]) (some 2) (cond (a0== [119,104,101,114,101]) (some 3) (cond (a0== [103,114,111,117,112]) (some 3) (cond (a0== [106,111,105,110]) (some 3) (cond (a0== [97,100,100]) (some 4) (some (-1))))))))))))))))))
def Li(N:Nat)(a0:Str):Option Bool:=cond (a0== [108,101,116]) (some true) (cond (a0== [105,110]) (some true) (cond (a0== [105,102]) (some true) (cond (a0== [116,104,101,110]) (some true) (cond (a0== [101,108,115,101]) (some true) (cond (a0== [102,111,114]) (some true) (cond (a0== [100,111]) (some true) ((GE N a0).bind fun r1=>some (decide (r1>=0)))))))))
def Du(N:Nat)(a0:Str):Option Bool:=(OT N a0).bind fun r1=>cond r1 ((Li N a0).bind fun r2=>some (!r2)) (some false)
def ME(N:Nat)(a0:Exp):Option Bool:=cond (a0.kind==1) ((Cm N a0.n 0 1000000000).bind fun r1=>cond r1 (cond (a0.text== []) (some ((a0.args.length:Int)==0)) (some false)) (some false)) (cond (a0.kind==2) (cond (a0.n==0) ((Lk N a0.text).bind fun r1=>cond r1 (some ((a0.args.length:Int)==0)) (some false)) (some false)) (cond (a0.kind==3) (cond (a0.n==0) ((Du N a0.text).bind fun r1=>cond r1 (some ((a0.args.length:Int)==0)) (some false)) (some false)) (cond (a0.kind==4) (cond (a0.n==0) (cond (a0.text== []) (some (decide ((a0.args.length:Int)<=8))) (some false)) (some false)) (cond (a0.kind==5) (cond (a0.n==0) ((GE N a0.text).bind fun r1=>some ((a0.args.length:Int)==r1)) (some false)) (cond (a0.kind==6) ((Cm N a0.n 1 5).bind fun r1=>cond r1 (cond (a0.text== []) (some ((a0.args.length:Int)==2)) (some false)) (some false)) (cond (a0.kind==7) (cond (a0.n==0) ((Du N a0.text).bind fun r1=>cond r1 (some ((a0.args.length:Int)==2)) (some false)) (some false)) (cond (a0.kind==9) (cond (a0.n==0) ((Du N a0.text).bind fun r1=>cond r1 (some ((a0.args.length:Int)==2)) (some false)) (some false)) (cond (a0.kind==8) (cond (a0.n==0) (cond (a0.text== []) (some ((a0.args.length:Int)==3)) (some false)) (some false)) (some false)))))))))
def GR(N:Nat)(q0:Exp->Option Bool):Nat->List Exp->Int->Int->Exp->Option Bool
 |0,_,_,_,_=>none
 |n+1,x6,x7,x8,b1=>cond (decide (x8<x7)) (ite (0<=x8/\x8<x6.length) ((q0 (x6.getD x8.toNat Dx)).bind fun r1=>cond (!r1) (some false) (GR N q0 n x6 x7 (i64.wrap (x8+1)) b1)) none) ((ME N b1).bind fun r1=>some r1)
def TN(N:Nat)(q0:Exp->Option Bool)(a0:Exp):Option Bool:=GR N q0 N a0.args (a0.args.length:Int) 0 a0
def Jy(N:Nat):Nat->Exp->Option Bool
 |0,_=>none
 |d+1,a0=>TN N (Jy N d) a0
def OO(N:Nat)(a0:Exp):Option Bool:=Jy N N a0
def Lj(N:Nat)(a0:Exp):Option Bool:=(OL N a0).bind fun r1=>cond (decide (r1<=40)) ((OK N a0).bind fun r2=>cond (decide (r2<=8)) ((OO N a0).bind fun r3=>some r3) (some false)) (some false)
def AJ(N:Nat)(a0:Int):Option Val:=some (Val.mk 6 a0 0 [] [] [] [])
def Ax(N:Nat)(a0:Int):Option Val:=some (Val.mk 1 a0 0 [] [] [] [])
def Ju(N:Nat)(a0:Str):Option Val:=some (Val.mk 2 0 0 a0 [] [] [])
def Lz(N:Nat)(a0:Rowd):Option Rowd:=if 0+a0.cells.length<=Lim then if 0+a0.frm.length<=Lim then some (Rowd.mk ([]++a0.cells) ([]++a0.frm)) else none else none
def GT(N:Nat)(q0:Val->Option Val)(q1:List Val->Option (List Val)):Nat->List Rowd->Int->Int->Val->Val->Option Val
 |0,_,_,_,_,_=>none
 |n+1,x18,x19,x20,b2,b3=>cond (decide (x20<x19)) (ite (0<=x20/\x20<x18.length) ((Lz N (x18.getD x20.toNat Ty.row.dflt)).bind fun r1=>if b3.rows.length+ [r1].length<=Lim then(GT N q0 q1 n x18 x19 (i64.wrap (x20+1)) b2 (Val.mk b3.kind b3.n b3.step b3.text b3.list b3.columns (b3.rows++ [r1]))) else none) none) (some b3)
def MA(N:Nat)(q0:Val->Option Val)(q1:List Val->Option (List Val))(a0:Val):Option Val:=(q1 a0.list).bind fun r1=>if 0+a0.columns.length<=Lim then(GT N q0 q1 N a0.rows (a0.rows.length:Int) 0 (Val.mk 0 0 0 [] [] [] []) (Val.mk a0.kind a0.n a0.step a0.text r1 ([]++a0.columns) [])) else none
def MC(r:(List Val)):CallO:=cO (vS .own .val r)
def IB(N:Nat)(q0:Val->Option Val)(q1:List Val->Option (List Val)):Nat->List Val->List Val->Int->Int->Option (List Val)
 |0,_,_,_,_=>none
 |n+1,x3,x7,x8,x9=>cond (decide (x9<x8)) (ite (0<=x9/\x9<x7.length) ((q0 (x7.getD x9.toNat Dv)).bind fun r1=>if x3.length+ [r1.re].length<=Lim then(IB N q0 q1 n (x3++ [r1.re]) x7 x8 (i64.wrap (x9+1))) else none) none) (some x3)
def MB(N:Nat)(q0:Val->Option Val)(q1:List Val->Option (List Val))(a0:List Val):Option (List Val):=IB N q0 q1 N [] a0 (a0.length:Int) 0
structure Rq2 where
 c6:Val->Option (Val)
 c7:(List Val)->Option ((List Val))
def B0(N:Nat):Nat->Rq2
 |0=>⟨fun _=>none,fun _=>none⟩
 |d+1=>⟨MA N (B0 N d).c6 (B0 N d).c7,MB N (B0 N d).c6 (B0 N d).c7⟩
def Bm(N:Nat)(a0:Val):Option Val:=(B0 N N).c6 a0
def GU(N:Nat)(a0:List Val):Option (List Val):=(B0 N N).c7 a0
def Hu(N:Nat):Nat->List Bnd->Str->Int->Val->Option Val
 |0,_,_,_,_=>none
 |n+1,x0,x1,x5,b4=>cond (decide (x5>=0)) (ite (0<=x5/\x5<x0.length) (cond (((Bnd.name (x0.getD x5.toNat Ty.bnd.dflt)):Str)==x1) ((Bm N (Bnd.value (x0.getD x5.toNat Ty.bnd.dflt))).bind fun r1=>some r1) (Hu N n x0 x1 (i64.wrap (x5 - 1)) b4)) none) ((AJ N 1).bind fun r1=>some r1)
def Lq(N:Nat)(a0:List Bnd)(a1:Str):Option Val:=(Hu N N a0 a1 (i64.wrap ((a0.length:Int) - 1)) (Val.mk 0 0 0 [] [] [] []))
def C8(N:Nat)(a0:Int):Option Bool:=(Cm N a0 (-1000000000) 1000000000).bind fun r1=>some r1
def Hs(N:Nat):Nat->Str->List Str->Int->Int->Option Int
 |0,_,_,_,_=>none
 |n+1,x1,x7,x8,x9=>cond (decide (x9<x8)) (ite (0<=x9/\x9<x7.length) (cond (((x7.getD x9.toNat Ds):Str)==x1) (some x9) (Hs N n x1 x7 x8 (i64.wrap (x9+1)))) none) (some (-1))
def Jn(N:Nat)(a0:List Str)(a1:Str):Option Int:=Hs N N a1 a0 (a0.length:Int) 0
def GC(N:Nat):Nat->List Str->List Str->Int->Int->Option Bool
 |0,_,_,_,_=>none
 |n+1,x0,x5,x6,x7=>cond (decide (x7<x6)) (ite (0<=x7/\x7<x5.length) ((Jn N x0 (x5.getD x7.toNat Ds)).bind fun r1=>cond (r1 != x7) (some false) (GC N n x0 x5 x6 (i64.wrap (x7+1)))) none) (some true)
def Hl(N:Nat)(a0:List Str):Option Bool:=GC N N a0 a0 (a0.length:Int) 0
def IA(N:Nat):Nat->List Str->List Str->Int->Int->Option Bool
 |0,_,_,_,_=>none
 |n+1,x0,x5,x6,x7=>cond (decide (x7<x6)) (ite (0<=x7/\x7<x5.length) ((Du N (x5.getD x7.toNat Ds)).bind fun r1=>cond (!r1) (some false) (IA N n x0 x5 x6 (i64.wrap (x7+1)))) none) ((Cm N (x0.length:Int) 1 4).bind fun r1=>cond r1 ((Hl N x0).bind fun r2=>some r2) (some false))
def Jx(N:Nat)(a0:List Str):Option Bool:=IA N N a0 a0 (a0.length:Int) 0
def FH(N:Nat)(k4:List Rowd->Int->Int->Val->Option Bool):Nat->List Rowd->Int->Int->List Org->Int->Int->Val->Rowd->Option Bool
 |0,_,_,_,_,_,_,_,_=>none
 |n+1,x20,x21,x22,x45,x46,x47,b1,b4=>cond (decide (x47<x46)) (ite (0<=x47/\x47<x45.length) (cond (decide (((Org.cell (x45.getD x47.toNat Do)):Int)<0)) (some false) (cond (decide (((Org.row (x45.getD x47.toNat Do)):Int)<0)) (some false) (cond (decide (x47>0)) (if(0:Int)<=(i64.wrap (x47 - 1))/\(i64.wrap (x47 - 1))<b4.frm.length then(IF N (b4.frm.getD (Int.toNat (i64.wrap (x47 - 1))) Do) (x45.getD x47.toNat Do)).bind fun r1=>cond (!r1) (some false) (FH N k4 n x20 x21 x22 x45 x46 (i64.wrap (x47+1)) b1 b4) else none) (FH N k4 n x20 x21 x22 x45 x46 (i64.wrap (x47+1)) b1 b4)))) none) (k4 x20 x21 (i64.wrap (x22+1)) b1)
def GW(N:Nat)(k4:List Rowd->Int->Int->Val->Option Bool):Nat->List Rowd->Int->Int->List Int->Int->Int->Val->Rowd->Option Bool
 |0,_,_,_,_,_,_,_,_=>none
 |n+1,x20,x21,x22,x34,x35,x36,b1,b4=>cond (decide (x36<x35)) (ite (0<=x36/\x36<x34.length) ((C8 N (x34.getD x36.toNat Di)).bind fun r1=>cond (!r1) (some false) (GW N k4 n x20 x21 x22 x34 x35 (i64.wrap (x36+1)) b1 b4)) none) (FH N k4 N x20 x21 x22 b4.frm (b4.frm.length:Int) 0 b1 b4)
def IC(N:Nat):Nat->List Rowd->Int->Int->Val->Option Bool
 |0,_,_,_,_=>none
 |n+1,x20,x21,x22,b1=>cond (decide (x22<x21)) (ite (0<=x22/\x22<x20.length) (cond ((List.length (Rowd.cells (x20.getD x22.toNat Ty.row.dflt)):Int) != (b1.columns.length:Int)) (some false) (GW N (fun z0 z1 z2 z3=>(IC N n z0 z1 z2 z3)) N x20 x21 x22 (Rowd.cells (x20.getD x22.toNat Ty.row.dflt)) (List.length (Rowd.cells (x20.getD x22.toNat Ty.row.dflt)):Int) 0 b1 (x20.getD x22.toNat Ty.row.dflt))) none) (some true)
def KA(N:Nat)(a0:Val):Option Bool:=(Jx N a0.columns).bind fun r1=>cond (!r1) (some false) (cond (decide ((a0.rows.length:Int)>12)) (some false) (IC N N a0.rows (a0.rows.length:Int) 0 a0))
def Hq(N:Nat)(q0:Val->Option Int):Nat->Int->List Val->Int->Int->Option Int
 |0,_,_,_,_=>none
 |n+1,x3,x7,x8,x9=>cond (decide (x9<x8)) (ite (0<=x9/\x9<x7.length) ((q0 (x7.getD x9.toNat Dv)).bind fun r1=>(Hq N q0 n (if r1>x3 then r1 else x3) x7 x8 (i64.wrap (x9+1)))) none) (some (i64.wrap (x3+1)))
def Sr(N:Nat)(q0:Val->Option Int)(a0:Val):Option Int:=Hq N q0 N 0 a0.list (a0.list.length:Int) 0
def GF(N:Nat):Nat->Val->Option Int
 |0,_=>none
 |d+1,a0=>Sr N (GF N d) a0
def Hp(N:Nat)(a0:Val):Option Int:=GF N N a0
def Cz(N:Nat)(q0:Val->Option Bool):Nat->List Val->Int->Int->Val->Option Bool
 |0,_,_,_,_=>none
 |n+1,x124,x125,x126,b1=>cond (decide (x126<x125)) (ite (0<=x126/\x126<x124.length) (cond (((Val.kind (x124.getD x126.toNat Dv)):Int) != 1) (cond (((Val.kind (x124.getD x126.toNat Dv)):Int) != 2) (cond (((Val.kind (x124.getD x126.toNat Dv)):Int) != 3) (some false) ((q0 (x124.getD x126.toNat Dv)).bind fun r1=>cond (!r1) (some false) (Cz N q0 n x124 x125 (i64.wrap (x126+1)) b1))) ((q0 (x124.getD x126.toNat Dv)).bind fun r1=>cond (!r1) (some false) (Cz N q0 n x124 x125 (i64.wrap (x126+1)) b1))) ((q0 (x124.getD x126.toNat Dv)).bind fun r1=>cond (!r1) (some false) (Cz N q0 n x124 x125 (i64.wrap (x126+1)) b1))) none) (cond (b1.n==0) (cond (b1.step==0) (cond (b1.text== []) (cond ((b1.columns.length:Int)==0) (cond ((b1.rows.length:Int)==0) (cond (decide ((b1.list.length:Int)<=8)) ((Hp N b1).bind fun r1=>some (decide (r1<=3))) (some false)) (some false)) (some false)) (some false)) (some false)) (some false))
def Ll(N:Nat)(q0:Val->Option Bool)(a0:Val):Option Bool:=cond ((a0.list.length:Int)==0) (cond ((a0.columns.length:Int)==0) (cond (a0.kind==1) (cond ((a0.rows.length:Int)==0) (cond (a0.step==0) (cond (a0.text== []) ((C8 N a0.n).bind fun r1=>some r1) (some false)) (some false)) (some false)) (cond (a0.kind==2) (cond ((a0.rows.length:Int)==0) (cond (a0.n==0) (cond (a0.step==0) ((Lk N a0.text).bind fun r1=>some r1) (some false)) (some false)) (some false)) (cond (a0.kind==4) (cond ((a0.rows.length:Int)==0) (cond (a0.text== []) ((C8 N a0.n).bind fun r1=>cond r1 ((C8 N a0.step).bind fun r2=>some r2) (some false)) (some false)) (some false)) (cond (a0.kind==6) (cond ((a0.rows.length:Int)==0) (cond (a0.step==0) (cond (a0.text== []) ((Cm N a0.n 1 8).bind fun r1=>some r1) (some false)) (some false)) (some false)) (cond (a0.kind==5) (cond (a0.n==0) (cond (a0.step==0) (cond (a0.text== []) ((KA N a0).bind fun r1=>some r1) (some false)) (some false)) (some false)) (cond (a0.kind==3) (Cz N q0 N a0.list (a0.list.length:Int) 0 a0) (some false))))))) (cond (a0.kind==1) (some false) (cond (a0.kind==2) (some false) (cond (a0.kind==4) (some false) (cond (a0.kind==6) (some false) (cond (a0.kind==5) (cond (a0.n==0) (cond (a0.step==0) (cond (a0.text== []) ((KA N a0).bind fun r1=>some r1) (some false)) (some false)) (some false)) (cond (a0.kind==3) (Cz N q0 N a0.list (a0.list.length:Int) 0 a0) (some false)))))))) (cond (a0.kind==1) (some false) (cond (a0.kind==2) (some false) (cond (a0.kind==4) (some false) (cond (a0.kind==6) (some false) (cond (a0.kind==5) (cond (a0.n==0) (cond (a0.step==0) (cond (a0.text== []) (some false) (some false)) (some false)) (some false)) (cond (a0.kind==3) (Cz N q0 N a0.list (a0.list.length:Int) 0 a0) (some false)))))))
def DA(N:Nat):Nat->Val->Option Bool
 |0,_=>none
 |d+1,a0=>Ll N (DA N d) a0
def OJ(N:Nat)(a0:Val):Option Bool:=DA N N a0
def GY(r:Val×Bool×Bool):CallO:=⟨.tup [(true,[.int .i64 (Val.kind r.1),.int .i64 (Val.n r.1),.int .i64 (Val.step r.1),.str (Val.text r.1),.sl .ro .val (Val.list r.1),.sl .ro .str (Val.columns r.1),.sl .ro .row (Val.rows r.1)]),(false,[.bool r.2.1])],[],[]⟩
def OW(r:Val×Bool×Bool):CallO:=⟨.tup [(true,[.int .i64 (Val.kind r.1),.int .i64 (Val.n r.1),.int .i64 (Val.step r.1),.str (Val.text r.1),.sl .own .val (Val.list r.1),.sl .own .str (Val.columns r.1),.sl .own .row (Val.rows r.1)]),(false,[.bool r.2.1])],[],[]⟩
def TY(r:Val×Bool×Bool):CallO:=⟨.tup [(true,[.int .i64 (Val.kind r.1),.int .i64 (Val.n r.1),.int .i64 (Val.step r.1),.str (Val.text r.1),.sl .ro .val [],.sl .ro .str [],.sl .ro .row []]),(false,[.bool r.2.1])],[],[]⟩
def KC(r:Val×Bool×Bool):CallO:=bif r.2.2 then GY r else OW r
def FK(N:Nat):Nat->List Val->Int->Int->Val->Option (Val×Bool×Bool)
 |0,_,_,_,_=>none
 |n+1,x6,x7,x8,b2=>cond (decide (x8<x7)) (ite (0<=x8/\x8<x6.length) ((OJ N (x6.getD x8.toNat Dv)).bind fun r1=>cond (!r1) ((AJ N 4).bind fun r2=>some (r2,true,false)) (cond (((Val.kind (x6.getD x8.toNat Dv)):Int)==6) (some ((x6.getD x8.toNat Dv),true,true)) (FK N n x6 x7 (i64.wrap (x8+1)) b2))) none) (some ((Val.mk 0 0 0 [] [] [] []),false,false))
def EG(N:Nat)(a0:List Val):Option (Val×Bool×Bool):=FK N N a0 (a0.length:Int) 0 (Val.mk 0 0 0 [] [] [] [])
def DY(N:Nat)(a0:List Val):Option Val:=(GU N a0).bind fun r1=>some (Val.mk 3 0 0 [] r1 [] [])
def DW(N:Nat):Nat->List Val->List Val->Int->Int->Val->Option Val
 |0,_,_,_,_,_=>none
 |n+1,x0,x16,x17,x18,b2=>cond (decide (x18<x17)) (ite (0<=x18/\x18<x16.length) (cond (((Val.kind (x16.getD x18.toNat Dv)):Int) != 1) (cond (((Val.kind (x16.getD x18.toNat Dv)):Int) != 2) (cond (((Val.kind (x16.getD x18.toNat Dv)):Int) != 3) ((AJ N 4).bind fun r1=>some r1) (DW N n x0 x16 x17 (i64.wrap (x18+1)) b2)) (DW N n x0 x16 x17 (i64.wrap (x18+1)) b2)) (DW N n x0 x16 x17 (i64.wrap (x18+1)) b2)) none) ((DY N x0).bind fun r1=>cond (decide ((x0.length:Int)>8)) ((AJ N 6).bind fun r2=>some r2) ((Hp N r1).bind fun r2=>cond (decide (r2>3)) ((AJ N 6).bind fun r3=>some r3) (some r1)))
def Hn(N:Nat)(a0:List Val):Option Val:=(EG N a0).bind fun r1=>cond r1.2.2 (cond r1.2.1 ((Bm N r1.1).bind fun r2=>some r2) (DW N N a0 a0 (a0.length:Int) 0 (Val.mk 0 0 0 [] [] [] []))) (cond r1.2.1 ((Bm N r1.1).bind fun r2=>some r2) (DW N N a0 a0 (a0.length:Int) 0 (Val.mk 0 0 0 [] [] [] [])))
def Ez(N:Nat)(a0:Int):Option Val:=(C8 N a0).bind fun r1=>cond (!r1) ((AJ N 5).bind fun r2=>some r2) ((Ax N a0).bind fun r2=>some r2)
def Jv(N:Nat)(a0:Bool):Option Val:=cond a0 ((Ax N 1).bind fun r1=>some r1) ((Ax N 0).bind fun r1=>some r1)
def IH(N:Nat):Nat->List Str->List Str->Int->Int->Option Bool
 |0,_,_,_,_=>none
 |n+1,x0,x1,x12,x13=>cond (decide (x13<x12)) (ite (0<=x13/\x13<x0.length) (ite (0<=x13/\x13<x1.length) (cond (!(((x0.getD x13.toNat Ds):Str)==(x1.getD x13.toNat Ds))) (some false) (IH N n x0 x1 x12 (i64.wrap (x13+1)))) none) none) (some true)
def MK(N:Nat)(a0 a1:List Str):Option Bool:=cond ((a0.length:Int) != (a1.length:Int)) (some false) (IH N N a0 a1 (a0.length:Int) 0)
def IG(N:Nat):Nat->List Int->List Int->Int->Int->Option Bool
 |0,_,_,_,_=>none
 |n+1,x0,x1,x12,x13=>cond (decide (x13<x12)) (ite (0<=x13/\x13<x0.length) (ite (0<=x13/\x13<x1.length) (cond ((x0.getD x13.toNat Di) != (x1.getD x13.toNat Di)) (some false) (IG N n x0 x1 x12 (i64.wrap (x13+1)))) none) none) (some true)
def MJ(N:Nat)(a0 a1:List Int):Option Bool:=cond ((a0.length:Int) != (a1.length:Int)) (some false) (IG N N a0 a1 (a0.length:Int) 0)
def OX(N:Nat):Nat->List Org->List Org->Int->Int->Option Bool
 |0,_,_,_,_=>none
 |n+1,x0,x1,x12,x13=>cond (decide (x13<x12)) (ite (0<=x13/\x13<x0.length) (ite (0<=x13/\x13<x1.length) (cond (!((((Org.cell (x0.getD x13.toNat Do)):Int)==(Org.cell (x1.getD x13.toNat Do)))&&(((Org.row (x0.getD x13.toNat Do)):Int)==(Org.row (x1.getD x13.toNat Do))))) (some false) (OX N n x0 x1 x12 (i64.wrap (x13+1)))) none) none) (some true)
def T2(N:Nat)(a0 a1:List Org):Option Bool:=cond ((a0.length:Int) != (a1.length:Int)) (some false) (OX N N a0 a1 (a0.length:Int) 0)
def EA(N:Nat)(q0:Val->Val->Bool->Option Bool):Nat->Bool->Int->Int->Val->Val->Option Bool
 |0,_,_,_,_,_=>none
 |n+1,x2,x83,x84,b3,b4=>cond (decide (x84<x83)) (ite (0<=x84/\x84<b3.rows.length) (ite (0<=x84/\x84<b4.rows.length) ((MJ N (Rowd.cells (b3.rows.getD x84.toNat Ty.row.dflt)) (Rowd.cells (b4.rows.getD x84.toNat Ty.row.dflt))).bind fun r1=>cond (!r1) (some false) (cond x2 ((T2 N (Rowd.frm (b3.rows.getD x84.toNat Ty.row.dflt)) (Rowd.frm (b4.rows.getD x84.toNat Ty.row.dflt))).bind fun r2=>cond (!r2) (some false) (EA N q0 n x2 x83 (i64.wrap (x84+1)) b3 b4)) (EA N q0 n x2 x83 (i64.wrap (x84+1)) b3 b4))) none) none) (some true)
def GV(N:Nat)(q0:Val->Val->Bool->Option Bool):Nat->Bool->Int->Int->Val->Val->Option Bool
 |0,_,_,_,_,_=>none
 |n+1,x2,x63,x64,b3,b4=>cond (decide (x64<x63)) (ite (0<=x64/\x64<b3.list.length) (ite (0<=x64/\x64<b4.list.length) ((q0 (b3.list.getD x64.toNat Dv) (b4.list.getD x64.toNat Dv) x2).bind fun r1=>cond (!r1) (some false) (GV N q0 n x2 x63 (i64.wrap (x64+1)) b3 b4)) none) none) (EA N q0 N x2 (b3.rows.length:Int) 0 b3 b4)
def MD(N:Nat)(q0:Val->Val->Bool->Option Bool)(a0 a1:Val)(a2:Bool):Option Bool:=cond (a0.kind != a1.kind) (some false) (cond (a0.n != a1.n) (some false) (cond (a0.step != a1.step) (some false) (cond (!(a0.text==a1.text)) (some false) ((MK N a0.columns a1.columns).bind fun r1=>cond (!r1) (some false) (cond ((a0.list.length:Int) != (a1.list.length:Int)) (some false) (cond ((a0.rows.length:Int) != (a1.rows.length:Int)) (some false) (GV N q0 N a2 (a0.list.length:Int) 0 a0 a1)))))))
def Cl(N:Nat):Nat->Val->Val->Bool->Option Bool
 |0,_,_,_=>none
 |d+1,a0,a1,a2=>MD N (Cl N d) a0 a1 a2
def OR(N:Nat)(a0 a1:Val)(a2:Bool):Option Bool:=Cl N N a0 a1 a2
def Jm(N:Nat)(a0 a1:Val):Option Bool:=(OR N a0 a1 false).bind fun r1=>some r1
def B9(r:Val×Bool):CallO:=⟨.v true [.int .i64 (Val.kind r.1),.int .i64 (Val.n r.1),.int .i64 (Val.step r.1),.str (Val.text r.1),.sl .ro .val (Val.list r.1),.sl .ro .str (Val.columns r.1),.sl .ro .row (Val.rows r.1)],[],[]⟩
def CJ(r:Val×Bool):CallO:=⟨.v true [.int .i64 (Val.kind r.1),.int .i64 (Val.n r.1),.int .i64 (Val.step r.1),.str (Val.text r.1),.sl .own .val (Val.list r.1),.sl .own .str (Val.columns r.1),.sl .own .row (Val.rows r.1)],[],[]⟩
def Sm(r:Val×Bool):CallO:=⟨.v true [.int .i64 (Val.kind r.1),.int .i64 (Val.n r.1),.int .i64 (Val.step r.1),.str (Val.text r.1),.sl .ro .val [],.sl .ro .str [],.sl .ro .row []],[],[]⟩
def GD(r:Val×Bool):CallO:=bif r.2 then B9 r else CJ r
def L9(N:Nat)(x0:Int)(x9 x10:Bool)(b4 b5 b6:Val):Option (Val×Bool):=cond (x0==2) (cond x9 ((Ez N (i64.wrap (b4.n - b5.n))).bind fun r1=>some (r1,false)) ((AJ N 4).bind fun r1=>some (r1,false))) (cond (x0==3) (cond x9 ((Ez N (i64.wrap (b4.n*b5.n))).bind fun r1=>some (r1,false)) ((AJ N 4).bind fun r1=>some (r1,false))) (cond (x0==4) (cond x9 ((Jv N (decide (b4.n<b5.n))).bind fun r1=>some (r1,false)) (cond x10 ((Jv N (Op.bytesLess b4.text b5.text)).bind fun r1=>some (r1,false)) ((AJ N 4).bind fun r1=>some (r1,false)))) (cond (x0==5) ((Jm N b4 b5).bind fun r1=>(Jv N r1).bind fun r2=>some (r2,false)) ((AJ N 4).bind fun r1=>some (r1,false)))))
def L8(N:Nat)(x0:Int)(x9 x10 x11:Bool)(b4 b5 b6:Val):Option (Val×Bool):=cond (x0==1) (cond x11 (cond (decide (((i64.wrap ((b4.list.length:Int)+(b5.list.length:Int))):Int)>8)) ((AJ N 6).bind fun r1=>some (r1,false)) ((GU N b4.list).bind fun r1=>(GU N b5.list).bind fun r2=>if r1.length+r2.length<=Lim then some ((Val.mk 3 0 0 [] (r1++r2) [] []),false) else none)) (L9 N x0 x9 x10 b4 b5 b6)) (L9 N x0 x9 x10 b4 b5 b6)
def DV(N:Nat)(x0:Int)(x9 x10 x11:Bool)(b4 b5 b6:Val):Option (Val×Bool):=cond (x0==1) (cond x9 ((Ez N (i64.wrap (b4.n+b5.n))).bind fun r1=>some (r1,false)) (cond x10 (cond (decide (((i64.wrap ((b4.text.length:Int)+(b5.text.length:Int))):Int)>20)) ((AJ N 6).bind fun r1=>some (r1,false)) (if b4.text.length+b5.text.length<=Lim then(Ju N (b4.text++b5.text)).bind fun r1=>some (r1,false) else none)) (L8 N x0 x9 x10 x11 b4 b5 b6))) (L8 N x0 x9 x10 x11 b4 b5 b6)
def Jk(N:Nat)(a0:Int)(a1 a2:Val):Option (Val×Bool):=(EG N [a1.re,a2.re]).bind fun r1=>cond r1.2.2 (if List.isEmpty r1.1.list=true then if List.isEmpty r1.1.columns=true then if List.isEmpty r1.1.rows=true then cond r1.2.1 (some ((Val.mk r1.1.kind r1.1.n r1.1.step r1.1.text [] [] []),true)) (cond (a1.kind==1) (DV N a0 (a2.kind==1) false false a1 a2 (Val.mk 0 0 0 [] [] [] [])) (cond (a1.kind==2) (DV N a0 false (a2.kind==2) false a1 a2 (Val.mk 0 0 0 [] [] [] [])) (cond (a1.kind==3) (DV N a0 false false (a2.kind==3) a1 a2 (Val.mk 0 0 0 [] [] [] [])) (DV N a0 false false false a1 a2 (Val.mk 0 0 0 [] [] [] []))))) else none else none else none) (cond r1.2.1 (some (r1.1,false)) (cond (a1.kind==1) (DV N a0 (a2.kind==1) false false a1 a2 (Val.mk 0 0 0 [] [] [] [])) (cond (a1.kind==2) (DV N a0 false (a2.kind==2) false a1 a2 (Val.mk 0 0 0 [] [] [] [])) (cond (a1.kind==3) (DV N a0 false false (a2.kind==3) a1 a2 (Val.mk 0 0 0 [] [] [] [])) (DV N a0 false false false a1 a2 (Val.mk 0 0 0 [] [] [] []))))))
def Hm(N:Nat):Nat->Str->List Bnd->List Bnd->Int->Int->Val->Option (List Bnd)
 |0,_,_,_,_,_,_=>none
 |n+1,x1,x7,x11,x12,x13,b5=>cond (decide (x13<x12)) (ite (0<=x13/\x13<x11.length) ((Bm N (Bnd.value (x11.getD x13.toNat Ty.bnd.dflt))).bind fun r1=>if x7.length+ [(Bnd.mk (Bnd.name (x11.getD x13.toNat Ty.bnd.dflt)) r1.re)].length<=Lim then(Hm N n x1 (x7++ [(Bnd.mk (Bnd.name (x11.getD x13.toNat Ty.bnd.dflt)) r1.re)]) x11 x12 (i64.wrap (x13+1)) b5) else none) none) ((Bm N b5).bind fun r1=>if x7.length+ [(Bnd.mk x1 r1.re)].length<=Lim then some (x7++ [(Bnd.mk x1 r1.re)]) else none)
def La(N:Nat)(a0:List Bnd)(a1:Str)(a2:Val):Option (List Bnd):=Hm N N a1 [] a0 (a0.length:Int) 0 a2
def OH(N:Nat)(a0:Val):Option Bool:=cond (a0.kind==1) (some (a0.n != 0)) (some false)
def D1(N:Nat)(a0:Str):Option Bool:=cond (a0== [99,108,111,99,107]) (some true) (cond (a0== [99,104,97,110,99,101]) (some true) (some (a0== [102,105,108,101])))
def xE7(r:Val×Bool):CallO:=bif r.2 then B9 r else CJ r
def Lp(N:Nat)(a0:Val):Option (Val×Bool):=(EG N [a0.re]).bind fun r1=>cond r1.2.2 (if List.isEmpty r1.1.list=true then if List.isEmpty r1.1.columns=true then if List.isEmpty r1.1.rows=true then cond r1.2.1 (some ((Val.mk r1.1.kind r1.1.n r1.1.step r1.1.text [] [] []),true)) (cond (a0.kind==3) ((Ax N (a0.list.length:Int)).bind fun r2=>some (r2,false)) (cond (a0.kind==2) ((Ax N (a0.text.length:Int)).bind fun r2=>some (r2,false)) ((AJ N 4).bind fun r2=>some (r2,false)))) else none else none else none) (cond r1.2.1 (some (r1.1,false)) (cond (a0.kind==3) ((Ax N (a0.list.length:Int)).bind fun r2=>some (r2,false)) (cond (a0.kind==2) ((Ax N (a0.text.length:Int)).bind fun r2=>some (r2,false)) ((AJ N 4).bind fun r2=>some (r2,false)))))
def TG(r:Val×Bool):CallO:=bif r.2 then B9 r else CJ r
def DZ(N:Nat):Nat->Int->List Val->Int->Int->Val->Option (Val×Bool)
 |0,_,_,_,_,_=>none
 |n+1,x5,x21,x22,x23,b2=>cond (decide (x23<x22)) (ite (0<=x23/\x23<x21.length) (cond (((Val.kind (x21.getD x23.toNat Dv)):Int) != 1) ((AJ N 4).bind fun r1=>some (r1,false)) ((C8 N (i64.wrap (x5+(Val.n (x21.getD x23.toNat Dv))))).bind fun r1=>cond (!r1) ((AJ N 5).bind fun r2=>some (r2,false)) (DZ N n (i64.wrap (x5+(Val.n (x21.getD x23.toNat Dv)))) x21 x22 (i64.wrap (x23+1)) b2))) none) ((Ax N x5).bind fun r1=>some (r1,false))
def Lw(N:Nat)(a0:Val):Option (Val×Bool):=(EG N [a0.re]).bind fun r1=>cond r1.2.2 (if List.isEmpty r1.1.list=true then if List.isEmpty r1.1.columns=true then if List.isEmpty r1.1.rows=true then cond r1.2.1 (some ((Val.mk r1.1.kind r1.1.n r1.1.step r1.1.text [] [] []),true)) (cond (a0.kind != 3) ((AJ N 4).bind fun r2=>some (r2,false)) (DZ N N 0 a0.list (a0.list.length:Int) 0 (Val.mk 0 0 0 [] [] [] []))) else none else none else none) (cond r1.2.1 (some (r1.1,false)) (cond (a0.kind != 3) ((AJ N 4).bind fun r2=>some (r2,false)) (DZ N N 0 a0.list (a0.list.length:Int) 0 (Val.mk 0 0 0 [] [] [] []))))
def KB(r:Val×Bool×Bool):CallO:=bif r.2.2 then GY r else OW r
def EC(N:Nat):Nat->List Int->List Val->Int->Int->Val->Option (Val×Bool×Bool)
 |0,_,_,_,_,_=>none
 |n+1,x0,x17,x18,x19,b4=>cond (decide (x19<x18)) (ite (0<=x19/\x19<x17.length) (ite (0<=x19/\x19<x0.length) (cond (((Val.kind (x17.getD x19.toNat Dv)):Int) != (x0.getD x19.toNat Di)) ((AJ N 4).bind fun r1=>some (r1,true,false)) (EC N n x0 x17 x18 (i64.wrap (x19+1)) b4)) none) none) (some ((Val.mk 0 0 0 [] [] [] []),false,false))
def C9(N:Nat)(a0:List Int)(a1:List Val):Option (Val×Bool×Bool):=(EG N a1).bind fun r1=>cond r1.2.2 (cond r1.2.1 (some (r1.1,true,true)) (EC N N a0 a1 (a1.length:Int) 0 (Val.mk 0 0 0 [] [] [] []))) (cond r1.2.1 (some (r1.1,true,false)) (EC N N a0 a1 (a1.length:Int) 0 (Val.mk 0 0 0 [] [] [] [])))
def xEM(r:Val×Bool):CallO:=bif r.2 then B9 r else CJ r
def Lc(N:Nat)(a0:Val):Option (Val×Bool):=(C9 N [5] [a0.re]).bind fun r1=>cond r1.2.2 (if List.isEmpty r1.1.list=true then if List.isEmpty r1.1.columns=true then if List.isEmpty r1.1.rows=true then cond r1.2.1 (some ((Val.mk r1.1.kind r1.1.n r1.1.step r1.1.text [] [] []),true)) ((Ax N (a0.rows.length:Int)).bind fun r2=>some (r2,false)) else none else none else none) (cond r1.2.1 (some (r1.1,false)) ((Ax N (a0.rows.length:Int)).bind fun r2=>some (r2,false)))
def xF4(r:Val×Bool×Bool):CallO:=bif r.2.2 then GY r else OW r
def II(N:Nat)(a0 a1:Val):Option (Val×Bool×Bool):=(EG N [a0.re,a1.re]).bind fun r1=>cond r1.2.2 (if List.isEmpty r1.1.list=true then if List.isEmpty r1.1.columns=true then if List.isEmpty r1.1.rows=true then cond r1.2.1 (some ((Val.mk r1.1.kind r1.1.n r1.1.step r1.1.text [] [] []),true,true)) ((AJ N 4).bind fun r2=>cond (a0.kind != 1) (some (r2,true,false)) (cond (a1.kind != 3) (some (r2,(a1.kind != 4),false)) (some (r2,false,false)))) else none else none else none) (cond r1.2.1 (some (r1.1,true,false)) ((AJ N 4).bind fun r2=>cond (a0.kind != 1) (some (r2,true,false)) (cond (a1.kind != 3) (some (r2,(a1.kind != 4),false)) (some (r2,false,false)))))
def Lu(r:Val×Bool):CallO:=bif r.2 then B9 r else CJ r
def CY(N:Nat)(a0 a1:Val):Option (Val×Bool):=(II N a0 a1).bind fun r1=>cond r1.2.2 (cond r1.2.1 (some (r1.1,true)) (cond (decide (a0.n<0)) ((AJ N 5).bind fun r2=>some (r2,false)) (cond (a1.kind==3) (cond (decide (a0.n>=(a1.list.length:Int))) ((AJ N 5).bind fun r2=>some (r2,false)) (if(0:Int)<=a0.n/\a0.n<a1.list.length then(Bm N (a1.list.getD a0.n.toNat Dv)).bind fun r2=>some (r2,false) else none)) ((Ez N (i64.wrap (a1.n+(i64.wrap (a0.n*a1.step))))).bind fun r2=>some (r2,false))))) (cond r1.2.1 (some (r1.1,false)) (cond (decide (a0.n<0)) ((AJ N 5).bind fun r2=>some (r2,false)) (cond (a1.kind==3) (cond (decide (a0.n>=(a1.list.length:Int))) ((AJ N 5).bind fun r2=>some (r2,false)) (if(0:Int)<=a0.n/\a0.n<a1.list.length then(Bm N (a1.list.getD a0.n.toNat Dv)).bind fun r2=>some (r2,false) else none)) ((Ez N (i64.wrap (a1.n+(i64.wrap (a0.n*a1.step))))).bind fun r2=>some (r2,false)))))
def TH(r:Val×Bool):CallO:=bif r.2 then B9 r else CJ r
def Hy(N:Nat):Nat->Int->Val->Val->Val->Val->Option (Val×Bool)
 |0,_,_,_,_,_=>none
 |n+1,x8,b2,b3,b4,b7=>cond (decide (x8<b2.n)) ((Ax N x8).bind fun r1=>(CY N r1 b3).bind fun r2=>cond r2.2 (if List.isEmpty r2.1.list=true then if List.isEmpty r2.1.columns=true then if List.isEmpty r2.1.rows=true then cond (r2.1.kind==6) (some ((Val.mk r2.1.kind r2.1.n r2.1.step r2.1.text [] [] []),true)) (if b7.list.length+List.length [(Val.mk r2.1.kind r2.1.n r2.1.step r2.1.text [] [] [])]<=Lim then none else none) else none else none else none) (cond (r2.1.kind==6) (some (r2.1,false)) (if b7.list.length+ [r2.1.re].length<=Lim then(Hy N n (i64.wrap (x8+1)) b2 b3 b4 (Val.mk b7.kind b7.n b7.step b7.text (b7.list++ [r2.1.re]) b7.columns b7.rows)) else none))) (some (b7,false))
def GQ(N:Nat)(a0 a1:Val):Option (Val×Bool):=(II N a0 a1).bind fun r1=>cond r1.2.2 (cond r1.2.1 (some (r1.1,true)) ((Cm N a0.n 0 8).bind fun r2=>cond (!r2) ((AJ N 5).bind fun r3=>some (r3,false)) (cond (a1.kind==3) (if(0:Int)<=(if(a1.list.length:Int)<a0.n then(a1.list.length:Int) else a0.n)/\(if(a1.list.length:Int)<a0.n then(a1.list.length:Int) else a0.n)<=a1.list.length then(DY N (List.take (Int.toNat (if(a1.list.length:Int)<a0.n then(a1.list.length:Int) else a0.n)) a1.list)).bind fun r3=>some (r3,false) else none) (none)))) (cond r1.2.1 (some (r1.1,false)) ((Cm N a0.n 0 8).bind fun r2=>cond (!r2) ((AJ N 5).bind fun r3=>some (r3,false)) (cond (a1.kind==3) (if(0:Int)<=(if(a1.list.length:Int)<a0.n then(a1.list.length:Int) else a0.n)/\(if(a1.list.length:Int)<a0.n then(a1.list.length:Int) else a0.n)<=a1.list.length then(DY N (List.take (Int.toNat (if(a1.list.length:Int)<a0.n then(a1.list.length:Int) else a0.n)) a1.list)).bind fun r3=>some (r3,false) else none) (Hy N N 0 a0 a1 (Val.mk 0 0 0 [] [] [] []) (Val.mk 3 0 0 [] [] [] [])))))
def FC(N:Nat)(a0 a1:Int):Option Val:=some (Val.mk 4 a0 a1 [] [] [] [])
def xFi(r:Val×Bool):CallO:=bif r.2 then B9 r else CJ r
def GO(N:Nat)(a0 a1:Val):Option (Val×Bool):=(II N a0 a1).bind fun r1=>cond r1.2.2 (cond r1.2.1 (some (r1.1,true)) (cond (decide (a0.n<0)) ((AJ N 5).bind fun r2=>some (r2,false)) (cond (a1.kind==3) (if(0:Int)<=(if(a1.list.length:Int)<a0.n then(a1.list.length:Int) else a0.n)/\(if(a1.list.length:Int)<a0.n then(a1.list.length:Int) else a0.n)<=a1.list.length then(DY N (List.drop (Int.toNat (if(a1.list.length:Int)<a0.n then(a1.list.length:Int) else a0.n)) a1.list)).bind fun r2=>some (r2,false) else none) ((CY N a0 a1).bind fun r2=>cond r2.2 (cond (r2.1.kind==6) (some (r2.1,true)) ((FC N r2.1.n a1.step).bind fun r3=>some (r3,false))) (cond (r2.1.kind==6) (some (r2.1,false)) ((FC N r2.1.n a1.step).bind fun r3=>some (r3,false))))))) (cond r1.2.1 (some (r1.1,false)) (cond (decide (a0.n<0)) ((AJ N 5).bind fun r2=>some (r2,false)) (cond (a1.kind==3) (if(0:Int)<=(if(a1.list.length:Int)<a0.n then(a1.list.length:Int) else a0.n)/\(if(a1.list.length:Int)<a0.n then(a1.list.length:Int) else a0.n)<=a1.list.length then(DY N (List.drop (Int.toNat (if(a1.list.length:Int)<a0.n then(a1.list.length:Int) else a0.n)) a1.list)).bind fun r2=>some (r2,false) else none) ((CY N a0 a1).bind fun r2=>cond r2.2 (cond (r2.1.kind==6) (some (r2.1,true)) ((FC N r2.1.n a1.step).bind fun r3=>some (r3,false))) (cond (r2.1.kind==6) (some (r2.1,false)) ((FC N r2.1.n a1.step).bind fun r3=>some (r3,false)))))))
def NU(N:Nat)(a0 a1:Str):Option (List Str):=q9 a0 a1
def GP(N:Nat)(a0:Str)(a1:Int):Option (List Str):=(NU N a0 (List.map (fun n=>UInt8.ofNat (Int.toNat n)) [a1])).bind fun r1=>some r1
def BI(N:Nat)(a0:Val)(a1:Str):Option Int:=(Jn N a0.columns a1).bind fun r1=>some r1
def Jq(r:Val×Bool):CallO:=bif r.2 then B9 r else CJ r
def GM(N:Nat)(k17:List Int->List Rowd->Int->Int->Val->Val->Option (Val×Bool)):Nat->List Int->List Rowd->Int->Int->List Int->Int->Int->Val->Val->Rowd->Rowd->Option (Val×Bool)
 |0,_,_,_,_,_,_,_,_,_,_,_=>none
 |n+1,x8,x56,x57,x58,x67,x68,x69,b4,b7,b13,b14=>cond (decide (x69<x68)) (ite (0<=x69/\x69<x67.length) (if(0:Int)<=(x67.getD x69.toNat Di)/\(x67.getD x69.toNat Di)<b13.cells.length then if b14.cells.length+ [(b13.cells.getD (Int.toNat (x67.getD x69.toNat Di)) Di)].length<=Lim then(GM N k17 n x8 x56 x57 x58 x67 x68 (i64.wrap (x69+1)) b4 b7 b13 (Rowd.mk (b14.cells++ [(b13.cells.getD (Int.toNat (x67.getD x69.toNat Di)) Di)]) b14.frm)) else none else none) none) (if b7.rows.length+ [b14].length<=Lim then(k17 x8 x56 x57 (i64.wrap (x58+1)) b4 (Val.mk b7.kind b7.n b7.step b7.text b7.list b7.columns (b7.rows++ [b14]))) else none)
def Dy(N:Nat):Nat->List Int->List Rowd->Int->Int->Val->Val->Option (Val×Bool)
 |0,_,_,_,_,_,_=>none
 |n+1,x8,x56,x57,x58,b4,b7=>cond (decide (x58<x57)) (ite (0<=x58/\x58<x56.length) (if 0+List.length (Rowd.frm (x56.getD x58.toNat Ty.row.dflt))<=Lim then(GM N (fun z0 z1 z2 z3 z4 z5=>(Dy N n z0 z1 z2 z3 z4 z5)) N x8 x56 x57 x58 x8 (x8.length:Int) 0 b4 b7 (x56.getD x58.toNat Ty.row.dflt) (Rowd.mk [] ([]++(Rowd.frm (x56.getD x58.toNat Ty.row.dflt))))) else none) none) (some (b7,false))
def Dz(N:Nat):Nat->List Int->List Str->Int->Int->Val->Val->Val->Option (Val×Bool)
 |0,_,_,_,_,_,_,_=>none
 |n+1,x8,x33,x34,x35,b3,b4,b7=>cond (decide (x35<x34)) (ite (0<=x35/\x35<x33.length) ((BI N b3 (x33.getD x35.toNat Ds)).bind fun r1=>cond (decide (r1<0)) ((AJ N 7).bind fun r2=>some (r2,false)) (if x8.length+ [r1].length<=Lim then(Dz N n (x8++ [r1]) x33 x34 (i64.wrap (x35+1)) b3 b4 b7) else none)) none) ((Hl N b7.columns).bind fun r1=>cond (!r1) ((AJ N 7).bind fun r2=>some (r2,false)) (Dy N N x8 b3.rows (b3.rows.length:Int) 0 b4 b7))
def Jp(N:Nat)(a0 a1:Val):Option (Val×Bool):=(C9 N [2,5] [a0.re,a1.re]).bind fun r1=>cond r1.2.2 (if List.isEmpty r1.1.list=true then if List.isEmpty r1.1.columns=true then if List.isEmpty r1.1.rows=true then cond r1.2.1 (some ((Val.mk r1.1.kind r1.1.n r1.1.step r1.1.text [] [] []),true)) ((GP N a0.text 32).bind fun r2=>(Dz N N [] r2 (r2.length:Int) 0 a1 (Val.mk 0 0 0 [] [] [] []) (Val.mk 5 0 0 [] [] r2 []))) else none else none else none) (cond r1.2.1 (some (r1.1,false)) ((GP N a0.text 32).bind fun r2=>(Dz N N [] r2 (r2.length:Int) 0 a1 (Val.mk 0 0 0 [] [] [] []) (Val.mk 5 0 0 [] [] r2 []))))
def Sq(r:Val×Bool):CallO:=bif r.2 then B9 r else CJ r
def FA(N:Nat):Nat->Int->List Rowd->Int->Int->Val->Val->Option (Val×Bool)
 |0,_,_,_,_,_,_=>none
 |n+1,x7,x35,x36,x37,b4,b8=>cond (decide (x37<x36)) (ite (0<=x37/\x37<x35.length) (if(0:Int)<=x7/\x7<(List.length (Rowd.cells (x35.getD x37.toNat Ty.row.dflt))) then(Ax N (List.getD (Rowd.cells (x35.getD x37.toNat Ty.row.dflt)) x7.toNat Di)).bind fun r1=>if b8.list.length+ [r1.re].length<=Lim then(FA N n x7 x35 x36 (i64.wrap (x37+1)) b4 (Val.mk b8.kind b8.n b8.step b8.text (b8.list++ [r1.re]) b8.columns b8.rows)) else none else none) none) (some (b8,false))
def Ho(N:Nat)(a0 a1:Val):Option (Val×Bool):=(C9 N [2,5] [a0.re,a1.re]).bind fun r1=>cond r1.2.2 (if List.isEmpty r1.1.list=true then if List.isEmpty r1.1.columns=true then if List.isEmpty r1.1.rows=true then cond r1.2.1 (some ((Val.mk r1.1.kind r1.1.n r1.1.step r1.1.text [] [] []),true)) ((BI N a1 a0.text).bind fun r2=>cond (decide (r2<0)) ((AJ N 7).bind fun r3=>some (r3,false)) (cond (decide ((a1.rows.length:Int)>8)) ((AJ N 6).bind fun r3=>some (r3,false)) (FA N N r2 a1.rows (a1.rows.length:Int) 0 (Val.mk 0 0 0 [] [] [] []) (Val.mk 3 0 0 [] [] [] [])))) else none else none else none) (cond r1.2.1 (some (r1.1,false)) ((BI N a1 a0.text).bind fun r2=>cond (decide (r2<0)) ((AJ N 7).bind fun r3=>some (r3,false)) (cond (decide ((a1.rows.length:Int)>8)) ((AJ N 6).bind fun r3=>some (r3,false)) (FA N N r2 a1.rows (a1.rows.length:Int) 0 (Val.mk 0 0 0 [] [] [] []) (Val.mk 3 0 0 [] [] [] [])))))
def Lx(r:Val×Bool):CallO:=bif r.2 then B9 r else CJ r
def FD(N:Nat)(k8:List Val->Int->Int->Val->Val->Option (Val×Bool)):Nat->List Val->Int->Int->List Val->Int->Int->Val->Val->Rowd->Option (Val×Bool)
 |0,_,_,_,_,_,_,_,_,_=>none
 |n+1,x33,x34,x35,x54,x55,x56,b4,b7,b10=>cond (decide (x56<x55)) (ite (0<=x56/\x56<x54.length) (cond (((Val.kind (x54.getD x56.toNat Dv)):Int) != 1) ((AJ N 4).bind fun r1=>some (r1,false)) (if b10.cells.length+ [(Val.n (x54.getD x56.toNat Dv))].length<=Lim then(FD N k8 n x33 x34 x35 x54 x55 (i64.wrap (x56+1)) b4 b7 (Rowd.mk (b10.cells++ [(Val.n (x54.getD x56.toNat Dv))]) b10.frm)) else none)) none) (if b7.rows.length+ [b10].length<=Lim then(k8 x33 x34 (i64.wrap (x35+1)) b4 (Val.mk b7.kind b7.n b7.step b7.text b7.list b7.columns (b7.rows++ [b10]))) else none)
def Ck(N:Nat):Nat->List Val->Int->Int->Val->Val->Option (Val×Bool)
 |0,_,_,_,_,_=>none
 |n+1,x33,x34,x35,b4,b7=>cond (decide (x35<x34)) (ite (0<=x35/\x35<x33.length) (cond (((Val.kind (x33.getD x35.toNat Dv)):Int) != 3) ((AJ N 4).bind fun r1=>some (r1,false)) (cond ((List.length (Val.list (x33.getD x35.toNat Dv)):Int) != (b7.columns.length:Int)) ((AJ N 4).bind fun r1=>some (r1,false)) (FD N (fun z0 z1 z2 z3 z4=>(Ck N n z0 z1 z2 z3 z4)) N x33 x34 x35 (Val.list (x33.getD x35.toNat Dv)) (List.length (Val.list (x33.getD x35.toNat Dv)):Int) 0 b4 b7 (Rowd.mk [] [])))) none) (some (b7,false))
def Jt(N:Nat)(a0 a1:Val):Option (Val×Bool):=(C9 N [2,3] [a0.re,a1.re]).bind fun r1=>cond r1.2.2 (if List.isEmpty r1.1.list=true then if List.isEmpty r1.1.columns=true then if List.isEmpty r1.1.rows=true then cond r1.2.1 (some ((Val.mk r1.1.kind r1.1.n r1.1.step r1.1.text [] [] []),true)) ((GP N a0.text 32).bind fun r2=>(Jx N r2).bind fun r3=>cond (!r3) ((AJ N 7).bind fun r4=>some (r4,false)) (Ck N N a1.list (a1.list.length:Int) 0 (Val.mk 0 0 0 [] [] [] []) (Val.mk 5 0 0 [] [] r2 []))) else none else none else none) (cond r1.2.1 (some (r1.1,false)) ((GP N a0.text 32).bind fun r2=>(Jx N r2).bind fun r3=>cond (!r3) ((AJ N 7).bind fun r4=>some (r4,false)) (Ck N N a1.list (a1.list.length:Int) 0 (Val.mk 0 0 0 [] [] [] []) (Val.mk 5 0 0 [] [] r2 []))))
def TK(r:Val×Bool):CallO:=bif r.2 then B9 r else CJ r
def D0(N:Nat):Nat->Int->List Rowd->Int->Int->Val->Val->Val->Option (Val×Bool)
 |0,_,_,_,_,_,_,_=>none
 |n+1,x9,x37,x38,x39,b4,b6,b10=>cond (decide (x39<x38)) (ite (0<=x39/\x39<x37.length) (if(0:Int)<=x9/\x9<(List.length (Rowd.cells (x37.getD x39.toNat Ty.row.dflt))) then cond (((List.getD (Rowd.cells (x37.getD x39.toNat Ty.row.dflt)) x9.toNat Di):Int)==b4.n) ((Lz N (x37.getD x39.toNat Ty.row.dflt)).bind fun r1=>if b10.rows.length+ [r1].length<=Lim then(D0 N n x9 x37 x38 (i64.wrap (x39+1)) b4 b6 (Val.mk b10.kind b10.n b10.step b10.text b10.list b10.columns (b10.rows++ [r1]))) else none) (D0 N n x9 x37 x38 (i64.wrap (x39+1)) b4 b6 b10) else none) none) (some (b10,false))
def Hz(N:Nat)(a0 a1 a2:Val):Option (Val×Bool):=(C9 N [2,1,5] [a0.re,a1.re,a2.re]).bind fun r1=>cond r1.2.2 (if List.isEmpty r1.1.list=true then if List.isEmpty r1.1.columns=true then if List.isEmpty r1.1.rows=true then cond r1.2.1 (some ((Val.mk r1.1.kind r1.1.n r1.1.step r1.1.text [] [] []),true)) ((BI N a2 a0.text).bind fun r2=>cond (decide (r2<0)) ((AJ N 7).bind fun r3=>some (r3,false)) (if 0+a2.columns.length<=Lim then(D0 N N r2 a2.rows (a2.rows.length:Int) 0 a1 (Val.mk 0 0 0 [] [] [] []) (Val.mk 5 0 0 [] [] ([]++a2.columns) [])) else none)) else none else none else none) (cond r1.2.1 (some (r1.1,false)) ((BI N a2 a0.text).bind fun r2=>cond (decide (r2<0)) ((AJ N 7).bind fun r3=>some (r3,false)) (if 0+a2.columns.length<=Lim then(D0 N N r2 a2.rows (a2.rows.length:Int) 0 a1 (Val.mk 0 0 0 [] [] [] []) (Val.mk 5 0 0 [] [] ([]++a2.columns) [])) else none)))
def Ly(N:Nat)(a0 a1:List Org):Option (List Org):=AH a0 a1
def OE(r:Val×Bool):CallO:=bif r.2 then B9 r else CJ r
def Lf(N:Nat)(x9 x10:Int)(b3 b4 b5 b6:Val):Option (Val×Bool):=zX x9 x10 b3 b4 b5
def FB(N:Nat)(a0 a1 a2:Val):Option (Val×Bool):=(C9 N [2,2,5] [a0.re,a1.re,a2.re]).bind fun r1=>cond r1.2.2 (if List.isEmpty r1.1.list=true then if List.isEmpty r1.1.columns=true then if List.isEmpty r1.1.rows=true then cond r1.2.1 (some ((Val.mk r1.1.kind r1.1.n r1.1.step r1.1.text [] [] []),true)) ((BI N a2 a0.text).bind fun r2=>(BI N a2 a1.text).bind fun r3=>cond (decide (r2<0)) ((AJ N 7).bind fun r4=>some (r4,false)) (cond (decide (r3<0)) ((AJ N 7).bind fun r4=>some (r4,false)) (cond (a0.text==a1.text) ((AJ N 7).bind fun r4=>some (r4,false)) (Lf N r2 r3 a0 a1 a2 (Val.mk 0 0 0 [] [] [] []))))) else none else none else none) (cond r1.2.1 (some (r1.1,false)) ((BI N a2 a0.text).bind fun r2=>(BI N a2 a1.text).bind fun r3=>cond (decide (r2<0)) ((AJ N 7).bind fun r4=>some (r4,false)) (cond (decide (r3<0)) ((AJ N 7).bind fun r4=>some (r4,false)) (cond (a0.text==a1.text) ((AJ N 7).bind fun r4=>some (r4,false)) (Lf N r2 r3 a0 a1 a2 (Val.mk 0 0 0 [] [] [] []))))))
def FE(N:Nat):Nat->List Str->List Str->List Str->Int->Int->Option (List Str)
 |0,_,_,_,_,_=>none
 |n+1,x1,x5,x9,x10,x11=>cond (decide (x11<x10)) (ite (0<=x11/\x11<x9.length) ((Jn N x1 (x9.getD x11.toNat Ds)).bind fun r1=>cond (decide (r1<0)) (if x5.length+ [(x9.getD x11.toNat Ds)].length<=Lim then(FE N n x1 (x5++ [(x9.getD x11.toNat Ds)]) x9 x10 (i64.wrap (x11+1))) else none) (FE N n x1 x5 x9 x10 (i64.wrap (x11+1)))) none) (some x5)
def Jw(N:Nat)(a0 a1:List Str):Option (List Str):=FE N N a1 [] a0 (a0.length:Int) 0
def Lm(r:Val×Bool):CallO:=bif r.2 then B9 r else CJ r
def GL(N:Nat)(k13:Int->Int->List Rowd->Int->Int->Val->Val->Val->Option (Val×Bool)):Nat->Int->Int->List Rowd->Int->Int->List Rowd->Int->Int->Val->Val->Val->Rowd->Option (Val×Bool)
 |0,_,_,_,_,_,_,_,_,_,_,_,_=>none
 |n+1,x9,x10,x69,x70,x71,x76,x77,x78,b5,b6,b12,b14=>cond (decide (x78<x77)) (ite (0<=x78/\x78<x76.length) (ite (0<=x9/\x9<b14.cells.length) (if(0:Int)<=x10/\x10<(List.length (Rowd.cells (x76.getD x78.toNat Ty.row.dflt))) then cond ((b14.cells.getD x9.toNat Di) != (List.getD (Rowd.cells (x76.getD x78.toNat Ty.row.dflt)) x10.toNat Di)) (GL N k13 n x9 x10 x69 x70 x71 x76 x77 (i64.wrap (x78+1)) b5 b6 b12 b14) (if 0+b14.cells.length<=Lim then if(0:Int)<=x10/\x10<=(List.length (Rowd.cells (x76.getD x78.toNat Ty.row.dflt))) then if List.length ([]++b14.cells)+List.length (List.take x10.toNat (Rowd.cells (x76.getD x78.toNat Ty.row.dflt)))<=Lim then if(0:Int)<=(i64.wrap (x10+1))/\(i64.wrap (x10+1))<=(List.length (Rowd.cells (x76.getD x78.toNat Ty.row.dflt))) then if List.length (([]++b14.cells)++(List.take x10.toNat (Rowd.cells (x76.getD x78.toNat Ty.row.dflt))))+List.length (List.drop (Int.toNat (i64.wrap (x10+1))) (Rowd.cells (x76.getD x78.toNat Ty.row.dflt)))<=Lim then(Ly N b14.frm (Rowd.frm (x76.getD x78.toNat Ty.row.dflt))).bind fun r1=>if b12.rows.length+List.length [(Rowd.mk ((([]++b14.cells)++(List.take x10.toNat (Rowd.cells (x76.getD x78.toNat Ty.row.dflt))))++(List.drop (Int.toNat (i64.wrap (x10+1))) (Rowd.cells (x76.getD x78.toNat Ty.row.dflt)))) r1)]<=Lim then(GL N k13 n x9 x10 x69 x70 x71 x76 x77 (i64.wrap (x78+1)) b5 b6 (Val.mk b12.kind b12.n b12.step b12.text b12.list b12.columns (b12.rows++ [(Rowd.mk ((([]++b14.cells)++(List.take x10.toNat (Rowd.cells (x76.getD x78.toNat Ty.row.dflt))))++(List.drop (Int.toNat (i64.wrap (x10+1))) (Rowd.cells (x76.getD x78.toNat Ty.row.dflt)))) r1)])) b14) else none else none else none else none else none else none) else none) none) none) (k13 x9 x10 x69 x70 (i64.wrap (x71+1)) b5 b6 b12)
def Dw(N:Nat):Nat->Int->Int->List Rowd->Int->Int->Val->Val->Val->Option (Val×Bool)
 |0,_,_,_,_,_,_,_,_=>none
 |n+1,x9,x10,x69,x70,x71,b5,b6,b12=>cond (decide (x71<x70)) (ite (0<=x71/\x71<x69.length) (GL N (fun z0 z1 z2 z3 z4 z5 z6 z7=>(Dw N n z0 z1 z2 z3 z4 z5 z6 z7)) N x9 x10 x69 x70 x71 b5.rows (b5.rows.length:Int) 0 b5 b6 b12 (x69.getD x71.toNat Ty.row.dflt)) none) (cond (decide ((b12.rows.length:Int)>12)) ((AJ N 6).bind fun r1=>some (r1,false)) (some (b12,false)))
def GK(N:Nat)(a0 a1 a2:Val):Option (Val×Bool):=(C9 N [2,5,5] [a0.re,a1.re,a2.re]).bind fun r1=>cond r1.2.2 (if List.isEmpty r1.1.list=true then if List.isEmpty r1.1.columns=true then if List.isEmpty r1.1.rows=true then cond r1.2.1 (some ((Val.mk r1.1.kind r1.1.n r1.1.step r1.1.text [] [] []),true)) ((BI N a1 a0.text).bind fun r2=>(BI N a2 a0.text).bind fun r3=>(Jw N a2.columns [a0.text]).bind fun r4=>if 0+a1.columns.length<=Lim then if List.length ([]++a1.columns)+r4.length<=Lim then cond (decide (r2<0)) ((AJ N 7).bind fun r5=>some (r5,false)) (cond (decide (r3<0)) ((AJ N 7).bind fun r5=>some (r5,false)) ((Hl N (([]++a1.columns)++r4)).bind fun r5=>cond (!r5) ((AJ N 7).bind fun r6=>some (r6,false)) (cond (decide ((List.length (([]++a1.columns)++r4):Int)>4)) ((AJ N 6).bind fun r6=>some (r6,false)) (Dw N N r2 r3 a1.rows (a1.rows.length:Int) 0 a2 (Val.mk 0 0 0 [] [] [] []) (Val.mk 5 0 0 [] [] (([]++a1.columns)++r4) []))))) else none else none) else none else none else none) (cond r1.2.1 (some (r1.1,false)) ((BI N a1 a0.text).bind fun r2=>(BI N a2 a0.text).bind fun r3=>(Jw N a2.columns [a0.text]).bind fun r4=>if 0+a1.columns.length<=Lim then if List.length ([]++a1.columns)+r4.length<=Lim then cond (decide (r2<0)) ((AJ N 7).bind fun r5=>some (r5,false)) (cond (decide (r3<0)) ((AJ N 7).bind fun r5=>some (r5,false)) ((Hl N (([]++a1.columns)++r4)).bind fun r5=>cond (!r5) ((AJ N 7).bind fun r6=>some (r6,false)) (cond (decide ((List.length (([]++a1.columns)++r4):Int)>4)) ((AJ N 6).bind fun r6=>some (r6,false)) (Dw N N r2 r3 a1.rows (a1.rows.length:Int) 0 a2 (Val.mk 0 0 0 [] [] [] []) (Val.mk 5 0 0 [] [] (([]++a1.columns)++r4) []))))) else none else none))
def Sl(r:Val×Bool):CallO:=bif r.2 then B9 r else CJ r
def Dp(N:Nat):Nat->Int->Int->List Rowd->Int->Int->Val->Val->Option (Val×Bool)
 |0,_,_,_,_,_,_,_=>none
 |n+1,x11,x12,x72,x73,x74,b8,b13=>cond (decide (x74<x73)) (ite (0<=x74/\x74<x72.length) (if(0:Int)<=x11/\x11<(List.length (Rowd.cells (x72.getD x74.toNat Ty.row.dflt))) then if(0:Int)<=x12/\x12<(List.length (Rowd.cells (x72.getD x74.toNat Ty.row.dflt))) then(C8 N (i64.wrap ((List.getD (Rowd.cells (x72.getD x74.toNat Ty.row.dflt)) x11.toNat Di)+(List.getD (Rowd.cells (x72.getD x74.toNat Ty.row.dflt)) x12.toNat Di)))).bind fun r1=>cond (!r1) ((AJ N 5).bind fun r2=>some (r2,false)) (ite (0<=x74/\x74<b13.rows.length) (if List.length (Rowd.cells (b13.rows.getD x74.toNat Ty.row.dflt))+ [(i64.wrap ((List.getD (Rowd.cells (x72.getD x74.toNat Ty.row.dflt)) x11.toNat Di)+(List.getD (Rowd.cells (x72.getD x74.toNat Ty.row.dflt)) x12.toNat Di)))].length<=Lim then(Dp N n x11 x12 x72 x73 (i64.wrap (x74+1)) b8 (Val.mk b13.kind b13.n b13.step b13.text b13.list b13.columns (b13.rows.set x74.toNat (Rowd.mk ((Rowd.cells (b13.rows.getD x74.toNat Ty.row.dflt))++ [(i64.wrap ((List.getD (Rowd.cells (x72.getD x74.toNat Ty.row.dflt)) x11.toNat Di)+(List.getD (Rowd.cells (x72.getD x74.toNat Ty.row.dflt)) x12.toNat Di)))]) (Rowd.frm (b13.rows.getD x74.toNat Ty.row.dflt)))))) else none) none) else none else none) none) (some (b13,false))
def DU(N:Nat)(a0 a1 a2 a3:Val):Option (Val×Bool):=(C9 N [2,2,2,5] [a0.re,a1.re,a2.re,a3.re]).bind fun r1=>cond r1.2.2 (if List.isEmpty r1.1.list=true then if List.isEmpty r1.1.columns=true then if List.isEmpty r1.1.rows=true then cond r1.2.1 (some ((Val.mk r1.1.kind r1.1.n r1.1.step r1.1.text [] [] []),true)) ((BI N a3 a1.text).bind fun r2=>(BI N a3 a2.text).bind fun r3=>(Du N a0.text).bind fun r4=>cond (!r4) ((AJ N 7).bind fun r5=>some (r5,false)) ((BI N a3 a0.text).bind fun r5=>cond (decide (r5>=0)) ((AJ N 7).bind fun r6=>some (r6,false)) (cond (decide (r2<0)) ((AJ N 7).bind fun r6=>some (r6,false)) (cond (decide (r3<0)) ((AJ N 7).bind fun r6=>some (r6,false)) (cond (decide ((a3.columns.length:Int)>=4)) ((AJ N 6).bind fun r6=>some (r6,false)) ((Bm N a3).bind fun r6=>if r6.columns.length+ [a0.text].length<=Lim then(Dp N N r2 r3 a3.rows (a3.rows.length:Int) 0 (Val.mk 0 0 0 [] [] [] []) (Val.mk r6.kind r6.n r6.step r6.text r6.list (r6.columns++ [a0.text]) r6.rows)) else none)))))) else none else none else none) (cond r1.2.1 (some (r1.1,false)) ((BI N a3 a1.text).bind fun r2=>(BI N a3 a2.text).bind fun r3=>(Du N a0.text).bind fun r4=>cond (!r4) ((AJ N 7).bind fun r5=>some (r5,false)) ((BI N a3 a0.text).bind fun r5=>cond (decide (r5>=0)) ((AJ N 7).bind fun r6=>some (r6,false)) (cond (decide (r2<0)) ((AJ N 7).bind fun r6=>some (r6,false)) (cond (decide (r3<0)) ((AJ N 7).bind fun r6=>some (r6,false)) (cond (decide ((a3.columns.length:Int)>=4)) ((AJ N 6).bind fun r6=>some (r6,false)) ((Bm N a3).bind fun r6=>if r6.columns.length+ [a0.text].length<=Lim then(Dp N N r2 r3 a3.rows (a3.rows.length:Int) 0 (Val.mk 0 0 0 [] [] [] []) (Val.mk r6.kind r6.n r6.step r6.text r6.list (r6.columns++ [a0.text]) r6.rows)) else none)))))))
def xEJ(r:Val×Bool):CallO:=bif r.2 then B9 r else CJ r
def DX(N:Nat)(a0:Str)(a1:List Val):Option (Val×Bool):=(D1 N a0).bind fun r1=>cond r1 ((AJ N 4).bind fun r2=>some (r2,false)) ((GE N a0).bind fun r2=>cond ((a1.length:Int) != r2) ((AJ N 4).bind fun r3=>some (r3,false)) (cond (a0== [108,101,110]) (if(0:Int)<=0/\(0:Int)<a1.length then(Lp N (a1.getD (Int.toNat 0) Dv)).bind fun r3=>cond r3.2 (some (r3.1,true)) (some (r3.1,false)) else none) (cond (a0== [115,117,109]) (if(0:Int)<=0/\(0:Int)<a1.length then(Lw N (a1.getD (Int.toNat 0) Dv)).bind fun r3=>cond r3.2 (some (r3.1,true)) (some (r3.1,false)) else none) (cond (a0== [114,111,119,115]) (if(0:Int)<=0/\(0:Int)<a1.length then(Lc N (a1.getD (Int.toNat 0) Dv)).bind fun r3=>cond r3.2 (some (r3.1,true)) (some (r3.1,false)) else none) (cond (a0== [116,97,107,101]) (if(0:Int)<=0/\(0:Int)<a1.length then if(0:Int)<=1/\(1:Int)<a1.length then(GQ N (a1.getD (Int.toNat 0) Dv) (a1.getD (Int.toNat 1) Dv)).bind fun r3=>cond r3.2 (some (r3.1,true)) (some (r3.1,false)) else none else none) (cond (a0== [115,107,105,112]) (if(0:Int)<=0/\(0:Int)<a1.length then if(0:Int)<=1/\(1:Int)<a1.length then(GO N (a1.getD (Int.toNat 0) Dv) (a1.getD (Int.toNat 1) Dv)).bind fun r3=>cond r3.2 (some (r3.1,true)) (some (r3.1,false)) else none else none) (cond (a0== [110,116,104]) (if(0:Int)<=0/\(0:Int)<a1.length then if(0:Int)<=1/\(1:Int)<a1.length then(CY N (a1.getD (Int.toNat 0) Dv) (a1.getD (Int.toNat 1) Dv)).bind fun r3=>cond r3.2 (some (r3.1,true)) (some (r3.1,false)) else none else none) (cond (a0== [107,101,101,112]) (if(0:Int)<=0/\(0:Int)<a1.length then if(0:Int)<=1/\(1:Int)<a1.length then(Jp N (a1.getD (Int.toNat 0) Dv) (a1.getD (Int.toNat 1) Dv)).bind fun r3=>cond r3.2 (some (r3.1,true)) (some (r3.1,false)) else none else none) (cond (a0== [99,111,108,117,109,110]) (if(0:Int)<=0/\(0:Int)<a1.length then if(0:Int)<=1/\(1:Int)<a1.length then(Ho N (a1.getD (Int.toNat 0) Dv) (a1.getD (Int.toNat 1) Dv)).bind fun r3=>cond r3.2 (some (r3.1,true)) (some (r3.1,false)) else none else none) (cond (a0== [116,97,98,108,101]) (if(0:Int)<=0/\(0:Int)<a1.length then if(0:Int)<=1/\(1:Int)<a1.length then(Jt N (a1.getD (Int.toNat 0) Dv) (a1.getD (Int.toNat 1) Dv)).bind fun r3=>cond r3.2 (some (r3.1,true)) (some (r3.1,false)) else none else none) (cond (a0== [119,104,101,114,101]) (if(0:Int)<=0/\(0:Int)<a1.length then if(0:Int)<=1/\(1:Int)<a1.length then if(0:Int)<=2/\(2:Int)<a1.length then(Hz N (a1.getD (Int.toNat 0) Dv) (a1.getD (Int.toNat 1) Dv) (a1.getD (Int.toNat 2) Dv)).bind fun r3=>cond r3.2 (some (r3.1,true)) (some (r3.1,false)) else none else none else none) (cond (a0== [103,114,111,117,112]) (if(0:Int)<=0/\(0:Int)<a1.length then if(0:Int)<=1/\(1:Int)<a1.length then if(0:Int)<=2/\(2:Int)<a1.length then(FB N (a1.getD (Int.toNat 0) Dv) (a1.getD (Int.toNat 1) Dv) (a1.getD (Int.toNat 2) Dv)).bind fun r3=>cond r3.2 (some (r3.1,true)) (some (r3.1,false)) else none else none else none) (cond (a0== [106,111,105,110]) (if(0:Int)<=0/\(0:Int)<a1.length then if(0:Int)<=1/\(1:Int)<a1.length then if(0:Int)<=2/\(2:Int)<a1.length then(GK N (a1.getD (Int.toNat 0) Dv) (a1.getD (Int.toNat 1) Dv) (a1.getD (Int.toNat 2) Dv)).bind fun r3=>cond r3.2 (some (r3.1,true)) (some (r3.1,false)) else none else none else none) (cond (a0== [97,100,100]) (if(0:Int)<=0/\(0:Int)<a1.length then if(0:Int)<=1/\(1:Int)<a1.length then if(0:Int)<=2/\(2:Int)<a1.length then if(0:Int)<=3/\(3:Int)<a1.length then(DU N (a1.getD (Int.toNat 0) Dv) (a1.getD (Int.toNat 1) Dv) (a1.getD (Int.toNat 2) Dv) (a1.getD (Int.toNat 3) Dv)).bind fun r3=>cond r3.2 (some (r3.1,true)) (some (r3.1,false)) else none else none else none else none) ((C9 N [1,1] a1).bind fun r3=>cond r3.2.2 (if List.isEmpty r3.1.list=true then if List.isEmpty r3.1.columns=true then if List.isEmpty r3.1.rows=true then cond r3.2.1 (some ((Val.mk r3.1.kind r3.1.n r3.1.step r3.1.text [] [] []),true)) (if(0:Int)<=0/\(0:Int)<a1.length then if(0:Int)<=1/\(1:Int)<a1.length then(FC N (Val.n (a1.getD (Int.toNat 0) Dv)) (Val.n (a1.getD (Int.toNat 1) Dv))).bind fun r4=>some (r4,false) else none else none) else none else none else none) (cond r3.2.1 (some (r3.1,false)) (if(0:Int)<=0/\(0:Int)<a1.length then if(0:Int)<=1/\(1:Int)<a1.length then(FC N (Val.n (a1.getD (Int.toNat 0) Dv)) (Val.n (a1.getD (Int.toNat 1) Dv))).bind fun r4=>some (r4,false) else none else none)))))))))))))))))
def MI(N:Nat)(a0 a1:Rea):Option Bool:=cond (a0.kind==a1.kind) (cond (a0.n==a1.n) (cond (a0.text==a1.text) (some (a0.time==a1.time)) (some false)) (some false)) (some false)
def GI(N:Nat):Nat->List Rea->Int->Int->Rea->Val->Option (Val×Bool)
 |0,_,_,_,_,_=>none
 |n+1,x8,x9,x10,b3,b4=>cond (decide (x10<x9)) (ite (0<=x10/\x10<x8.length) ((MI N (x8.getD x10.toNat Ty.rea.dflt) b3).bind fun r1=>cond r1 ((Bm N (Rea.result (x8.getD x10.toNat Ty.rea.dflt))).bind fun r2=>some (r2,true)) (GI N n x8 x9 (i64.wrap (x10+1)) b3 b4)) none) (some ((Val.mk 0 0 0 [] [] [] []),false))
def OD(N:Nat)(a0:List Rea)(a1:Rea):Option (Val×Bool):=GI N N a0 (a0.length:Int) 0 a1 (Val.mk 0 0 0 [] [] [] [])
def Lr(N:Nat)(a0 a1 a2 a3:Int):Option Int:=cond (decide (((Int.tmod (i64.wrap ((i64.wrap ((i64.wrap ((i64.wrap (48271*a0))+(i64.wrap (7919*a1))))+(i64.wrap (104729*a2))))+(i64.wrap (1299709*a3)))) 2147483647):Int)<0)) (some (Int.tmod (i64.wrap (16807*(i64.wrap ((Int.tmod (i64.wrap ((i64.wrap ((i64.wrap ((i64.wrap (48271*a0))+(i64.wrap (7919*a1))))+(i64.wrap (104729*a2))))+(i64.wrap (1299709*a3)))) 2147483647)+2147483647)))) 2147483647)) (some (Int.tmod (i64.wrap (16807*(Int.tmod (i64.wrap ((i64.wrap ((i64.wrap ((i64.wrap (48271*a0))+(i64.wrap (7919*a1))))+(i64.wrap (104729*a2))))+(i64.wrap (1299709*a3)))) 2147483647))) 2147483647))
def GH(N:Nat):Nat->Str->List Fil->Int->Int->Option (Int×Bool)
 |0,_,_,_,_=>none
 |n+1,x1,x9,x10,x11=>cond (decide (x11<x10)) (ite (0<=x11/\x11<x9.length) (cond (((Fil.name (x9.getD x11.toNat Ty.fil.dflt)):Str)==x1) (some ((Fil.n (x9.getD x11.toNat Ty.fil.dflt)),true)) (GH N n x1 x9 x10 (i64.wrap (x11+1)))) none) (some (0,false))
def OC(N:Nat)(a0:Wld)(a1:Str):Option (Int×Bool):=GH N N a1 a0.files (a0.files.length:Int) 0
def GG(N:Nat)(a0:Wld)(a1 a2:Int)(a3:Rea):Option Val:=cond (a3.kind==1) ((C8 N a0.clock).bind fun r1=>cond (!r1) ((AJ N 4).bind fun r2=>some r2) ((Ax N a0.clock).bind fun r2=>some r2)) (cond (a3.kind==2) ((Cm N a3.n 1 1000000000).bind fun r1=>cond (!r1) ((AJ N 5).bind fun r2=>some r2) ((Lr N a0.seed a1 a2 a3.time).bind fun r2=>if a3.n≠(0:Int) then(C8 N (Int.tmod r2 a3.n)).bind fun r3=>cond (!r3) ((AJ N 4).bind fun r4=>some r4) ((Ax N (Int.tmod r2 a3.n)).bind fun r4=>some r4) else none)) (cond (a3.kind==3) ((OC N a0 a3.text).bind fun r1=>cond (!r1.2) ((AJ N 1).bind fun r2=>some r2) ((C8 N r1.1).bind fun r2=>cond (!r2) ((AJ N 4).bind fun r3=>some r3) ((Ax N r1.1).bind fun r3=>some r3))) ((AJ N 4).bind fun r1=>some r1)))
def D4(r:Val×Mch):CallO:=⟨(vV .ro r.1),[(Mc .own r.2)],[]⟩
def EF(N:Nat):Nat->List Rea->Int->Int->Mch->Rea->Val->Option (Val×Mch)
 |0,_,_,_,_,_,_=>none
 |n+1,x12,x13,x14,b0,b3,b4=>cond (decide (x14<x13)) (ite (0<=x14/\x14<x12.length) (cond (((Rea.kind (x12.getD x14.toNat Ty.rea.dflt)):Int)==b3.kind) (cond (((Rea.n (x12.getD x14.toNat Ty.rea.dflt)):Int)==b3.n) (cond (((Rea.text (x12.getD x14.toNat Ty.rea.dflt)):Str)==b3.text) (EF N n x12 x13 (i64.wrap (x14+1)) b0 (Rea.mk b3.kind b3.n (i64.wrap (b3.time+1)) b3.text b3.result) b4) (EF N n x12 x13 (i64.wrap (x14+1)) b0 b3 b4)) (EF N n x12 x13 (i64.wrap (x14+1)) b0 b3 b4)) (EF N n x12 x13 (i64.wrap (x14+1)) b0 b3 b4)) none) ((OD N b0.tape b3).bind fun r1=>cond (!r1.2) ((GG N b0.w b0.cell b0.version b3).bind fun r2=>(Bm N r2).bind fun r3=>if b0.reads.length+ [(Rea.mk b3.kind b3.n b3.time b3.text r3.re)].length<=Lim then some (r2,(Mch.mk b0.tape b0.w b0.cell b0.version (b0.reads++ [(Rea.mk b3.kind b3.n b3.time b3.text r3.re)]) b0.steps b0.over)) else none) ((Bm N r1.1).bind fun r2=>if b0.reads.length+ [(Rea.mk b3.kind b3.n b3.time b3.text r2.re)].length<=Lim then some (r1.1,(Mch.mk b0.tape b0.w b0.cell b0.version (b0.reads++ [(Rea.mk b3.kind b3.n b3.time b3.text r2.re)]) b0.steps b0.over)) else none))
def DB(N:Nat)(a0:Mch)(a1:Rea):Option (Val×Mch):=EF N N a0.reads (a0.reads.length:Int) 0 a0 a1 (Val.mk 0 0 0 [] [] [] [])
def OU(r:(List Val)×Mch):CallO:=⟨(vS .tip .val r.1),[(Mc .own r.2)],[]⟩
def ID(N:Nat)(q0:Mch->List Exp->List Bnd->Option ((List Val)×Mch))(q1 q2 q3:Mch->Exp->List Bnd->Option (Val×Mch)):Nat->List Bnd->List Val->List Exp->Int->Int->Mch->Option ((List Val)×Mch)
 |0,_,_,_,_,_,_=>none
 |n+1,x2,x7,x11,x12,x13,b0=>cond (decide (x13<x12)) (ite (0<=x13/\x13<x11.length) ((q2 b0 (x11.getD x13.toNat Dx) x2).bind fun r1=>if x7.length+ [r1.1.re].length<=Lim then(ID N q0 q1 q2 q3 n x2 (x7++ [r1.1.re]) x11 x12 (i64.wrap (x13+1)) r1.2) else none) none) (some (x7,b0))
def TX(N:Nat)(q0:Mch->List Exp->List Bnd->Option ((List Val)×Mch))(q1 q2 q3:Mch->Exp->List Bnd->Option (Val×Mch))(a0:Mch)(a1:List Exp)(a2:List Bnd):Option ((List Val)×Mch):=ID N q0 q1 q2 q3 N a2 [] a1 (a1.length:Int) 0 a0
def GX(a0:Mch)(a1:Exp)(a2:List Bnd):List Arg:=[.box (Mc .own a0),.val (.v true (Ex .ro a1)),.val (vS .ro .bnd a2)]
def MF(N:Nat)(q0:Mch->List Exp->List Bnd->Option ((List Val)×Mch))(q1 q2 q3:Mch->Exp->List Bnd->Option (Val×Mch))(a0:Mch)(a1:Exp)(a2:List Bnd):Option (Val×Mch):=(q0 a0 a1.args a2).bind fun r1=>cond r1.2.over (some ((Val.mk 0 0 0 [] [] [] []),r1.2)) ((D1 N a1.text).bind fun r2=>cond (!r2) ((DX N a1.text r1.1).bind fun r3=>cond r3.2 (some (r3.1,r1.2)) (some (r3.1,r1.2))) (cond (decide ((r1.1.length:Int)>0)) (if(0:Int)<=0/\(0:Int)<r1.1.length then cond (((Val.kind (r1.1.getD (Int.toNat 0) Dv)):Int)==6) (some ((r1.1.getD (Int.toNat 0) Dv),r1.2)) (cond (a1.text== [99,108,111,99,107]) ((DB N r1.2 (Rea.mk 1 0 0 [] (Val.mk 0 0 0 [] [] [] []))).bind fun r3=>some (r3.1,r3.2)) (cond (a1.text== [99,104,97,110,99,101]) (cond (((Val.kind (r1.1.getD (Int.toNat 0) Dv)):Int)==1) ((DB N r1.2 (Rea.mk 2 (Val.n (r1.1.getD (Int.toNat 0) Dv)) 0 [] (Val.mk 0 0 0 [] [] [] []))).bind fun r3=>some (r3.1,r3.2)) (cond (a1.text== [102,105,108,101]) (cond (((Val.kind (r1.1.getD (Int.toNat 0) Dv)):Int)==2) ((DB N r1.2 (Rea.mk 3 0 0 (Val.text (r1.1.getD (Int.toNat 0) Dv)) (Val.mk 0 0 0 [] [] [] []))).bind fun r3=>some (r3.1,r3.2)) ((AJ N 4).bind fun r3=>some (r3,r1.2))) ((AJ N 4).bind fun r3=>some (r3,r1.2)))) (cond (a1.text== [102,105,108,101]) (cond (((Val.kind (r1.1.getD (Int.toNat 0) Dv)):Int)==2) ((DB N r1.2 (Rea.mk 3 0 0 (Val.text (r1.1.getD (Int.toNat 0) Dv)) (Val.mk 0 0 0 [] [] [] []))).bind fun r3=>some (r3.1,r3.2)) ((AJ N 4).bind fun r3=>some (r3,r1.2))) ((AJ N 4).bind fun r3=>some (r3,r1.2))))) else none) (cond (a1.text== [99,108,111,99,107]) ((DB N r1.2 (Rea.mk 1 0 0 [] (Val.mk 0 0 0 [] [] [] []))).bind fun r3=>some (r3.1,r3.2)) (cond (a1.text== [99,104,97,110,99,101]) (if(0:Int)<=0/\(0:Int)<r1.1.length then cond (((Val.kind (r1.1.getD (Int.toNat 0) Dv)):Int)==1) ((DB N r1.2 (Rea.mk 2 (Val.n (r1.1.getD (Int.toNat 0) Dv)) 0 [] (Val.mk 0 0 0 [] [] [] []))).bind fun r3=>some (r3.1,r3.2)) (cond (a1.text== [102,105,108,101]) (cond (((Val.kind (r1.1.getD (Int.toNat 0) Dv)):Int)==2) ((DB N r1.2 (Rea.mk 3 0 0 (Val.text (r1.1.getD (Int.toNat 0) Dv)) (Val.mk 0 0 0 [] [] [] []))).bind fun r3=>some (r3.1,r3.2)) ((AJ N 4).bind fun r3=>some (r3,r1.2))) ((AJ N 4).bind fun r3=>some (r3,r1.2))) else none) (cond (a1.text== [102,105,108,101]) (if(0:Int)<=0/\(0:Int)<r1.1.length then cond (((Val.kind (r1.1.getD (Int.toNat 0) Dv)):Int)==2) ((DB N r1.2 (Rea.mk 3 0 0 (Val.text (r1.1.getD (Int.toNat 0) Dv)) (Val.mk 0 0 0 [] [] [] []))).bind fun r3=>some (r3.1,r3.2)) ((AJ N 4).bind fun r3=>some (r3,r1.2)) else none) ((AJ N 4).bind fun r3=>some (r3,r1.2)))))))
def Bx(N:Nat)(q0:Mch->List Exp->List Bnd->Option ((List Val)×Mch))(q1 q2 q3:Mch->Exp->List Bnd->Option (Val×Mch))(a0:Mch)(a1:Exp)(a2:List Bnd):Option (Val×Mch):=cond a0.over (some ((Val.mk 0 0 0 [] [] [] []),(Mch.mk a0.tape a0.w a0.cell a0.version a0.reads a0.steps true))) (cond (a0.steps==200) (some ((Val.mk 0 0 0 [] [] [] []),(Mch.mk a0.tape a0.w a0.cell a0.version a0.reads a0.steps true))) (cond (a1.kind==1) ((Ax N a1.n).bind fun r1=>some (r1,(Mch.mk a0.tape a0.w a0.cell a0.version a0.reads (i64.wrap (a0.steps+1)) a0.over))) (cond (a1.kind==2) ((Ju N a1.text).bind fun r1=>some (r1,(Mch.mk a0.tape a0.w a0.cell a0.version a0.reads (i64.wrap (a0.steps+1)) a0.over))) (cond (a1.kind==3) ((Lq N a2 a1.text).bind fun r1=>some (r1,(Mch.mk a0.tape a0.w a0.cell a0.version a0.reads (i64.wrap (a0.steps+1)) a0.over))) (cond (a1.kind==4) ((q0 (Mch.mk a0.tape a0.w a0.cell a0.version a0.reads (i64.wrap (a0.steps+1)) a0.over) a1.args a2).bind fun r1=>(Hn N r1.1).bind fun r2=>some (r2,r1.2)) (cond (a1.kind==6) ((q0 (Mch.mk a0.tape a0.w a0.cell a0.version a0.reads (i64.wrap (a0.steps+1)) a0.over) a1.args a2).bind fun r1=>if(0:Int)<=0/\(0:Int)<r1.1.length then if(0:Int)<=1/\(1:Int)<r1.1.length then(Jk N a1.n (r1.1.getD (Int.toNat 0) Dv) (r1.1.getD (Int.toNat 1) Dv)).bind fun r2=>cond r2.2 (if List.isEmpty r2.1.list=true then if List.isEmpty r2.1.columns=true then if List.isEmpty r2.1.rows=true then some ((Val.mk r2.1.kind r2.1.n r2.1.step r2.1.text [] [] []),r1.2) else none else none else none) (some (r2.1,r1.2)) else none else none) (cond (a1.kind==7) (if(0:Int)<=0/\(0:Int)<a1.args.length then(q2 (Mch.mk a0.tape a0.w a0.cell a0.version a0.reads (i64.wrap (a0.steps+1)) a0.over) (a1.args.getD (Int.toNat 0) Dx) a2).bind fun r1=>if(0:Int)<=1/\(1:Int)<a1.args.length then(La N a2 a1.text r1.1).bind fun r2=>(q2 r1.2 (a1.args.getD (Int.toNat 1) Dx) r2).bind fun r3=>some (r3.1,r3.2) else none else none) (cond (a1.kind==8) (if(0:Int)<=0/\(0:Int)<a1.args.length then(q2 (Mch.mk a0.tape a0.w a0.cell a0.version a0.reads (i64.wrap (a0.steps+1)) a0.over) (a1.args.getD (Int.toNat 0) Dx) a2).bind fun r1=>cond r1.2.over (some (r1.1,r1.2)) (cond (r1.1.kind==6) (some (r1.1,r1.2)) ((OH N r1.1).bind fun r2=>cond r2 (if(0:Int)<=1/\(1:Int)<a1.args.length then(q2 r1.2 (a1.args.getD (Int.toNat 1) Dx) a2).bind fun r3=>some (r3.1,r3.2) else none) (if(0:Int)<=2/\(2:Int)<a1.args.length then(q2 r1.2 (a1.args.getD (Int.toNat 2) Dx) a2).bind fun r3=>some (r3.1,r3.2) else none))) else none) (cond (a1.kind==9) ((q3 (Mch.mk a0.tape a0.w a0.cell a0.version a0.reads (i64.wrap (a0.steps+1)) a0.over) a1 a2).bind fun r1=>some (r1.1,r1.2)) ((q1 (Mch.mk a0.tape a0.w a0.cell a0.version a0.reads (i64.wrap (a0.steps+1)) a0.over) a1 a2).bind fun r1=>some (r1.1,r1.2)))))))))))
def FJ(N:Nat)(q0:Mch->List Exp->List Bnd->Option ((List Val)×Mch))(q1 q2 q3:Mch->Exp->List Bnd->Option (Val×Mch)):Nat->List Bnd->List Val->List Val->Int->Int->Mch->Exp->Val->Option (Val×Mch)
 |0,_,_,_,_,_,_,_,_=>none
 |n+1,x2,x8,x34,x35,x36,b0,b4,b6=>cond (decide (x36<x35)) (ite (0<=x36/\x36<x34.length) (if(0:Int)<=1/\(1:Int)<b4.args.length then(La N x2 b4.text (x34.getD x36.toNat Dv)).bind fun r1=>(q2 b0 (b4.args.getD (Int.toNat 1) Dx) r1).bind fun r2=>if x8.length+ [r2.1.re].length<=Lim then cond r2.2.over (some ((Val.mk 0 0 0 [] [] [] []),r2.2)) (FJ N q0 q1 q2 q3 n x2 (x8++ [r2.1.re]) x34 x35 (i64.wrap (x36+1)) r2.2 b4 b6) else none else none) none) ((Hn N x8).bind fun r1=>some (r1,b0))
def MG(N:Nat)(q0:Mch->List Exp->List Bnd->Option ((List Val)×Mch))(q1 q2 q3:Mch->Exp->List Bnd->Option (Val×Mch))(a0:Mch)(a1:Exp)(a2:List Bnd):Option (Val×Mch):=if(0:Int)<=0/\(0:Int)<a1.args.length then(q2 a0 (a1.args.getD (Int.toNat 0) Dx) a2).bind fun r1=>cond r1.2.over (some (r1.1,r1.2)) (cond (r1.1.kind==6) (some (r1.1,r1.2)) (cond (r1.1.kind != 3) ((AJ N 4).bind fun r2=>some (r2,r1.2)) (FJ N q0 q1 q2 q3 N a2 [] r1.1.list (r1.1.list.length:Int) 0 r1.2 a1 (Val.mk 0 0 0 [] [] [] [])))) else none
structure Rq3 where
 c8:Mch->(List Exp)->(List Bnd)->Option ((List Val)×Mch)
 c9:Mch->Exp->(List Bnd)->Option (Val×Mch)
 c10:Mch->Exp->(List Bnd)->Option (Val×Mch)
 c11:Mch->Exp->(List Bnd)->Option (Val×Mch)
def BJ(N:Nat):Nat->Rq3
 |0=>⟨fun _ _ _=>none,fun _ _ _=>none,fun _ _ _=>none,fun _ _ _=>none⟩
 |d+1=>⟨TX N (BJ N d).c8 (BJ N d).c9 (BJ N d).c10 (BJ N d).c11,MF N (BJ N d).c8 (BJ N d).c9 (BJ N d).c10 (BJ N d).c11,Bx N (BJ N d).c8 (BJ N d).c9 (BJ N d).c10 (BJ N d).c11,MG N (BJ N d).c8 (BJ N d).c9 (BJ N d).c10 (BJ N d).c11⟩
def OV(N:Nat)(a0:Mch)(a1:Exp)(a2:List Bnd):Option (Val×Mch):=(BJ N N).c10 a0 a1 a2
def Ld(N:Nat)(b12:Outc)(b14:Val)(b25:Mch):Option Outc:=(Bm N b14).bind fun r1=>some (Outc.mk r1 b25.reads b25.steps)
def Hr(N:Nat)(a0:Exp)(a1:List Bnd)(a2:List Rea)(a3:Wld)(a4 a5:Int):Option Outc:=(Lj N a0).bind fun r1=>cond (!r1) ((AJ N 4).bind fun r2=>some (Outc.mk r2 [] 0)) ((OV N (Mch.mk a2 a3 a4 a5 [] 0 false) a0 a1).bind fun r2=>cond r2.2.over ((AJ N 6).bind fun r3=>(Ld N (Outc.mk (Val.mk 0 0 0 [] [] [] []) [] 0) r3 r2.2)) (Ld N (Outc.mk (Val.mk 0 0 0 [] [] [] []) [] 0) r2.1 r2.2))
def KE(N:Nat)(a0:List Int):Option Bool:=some (decide ((a0.length:Int)>1048576))
def xAJ(r:Cur):CallO:=⟨.tup [(false,[.ptr 0 0]),(true,(Cu .ro r))],[],[]⟩
def JJ(N:Nat):Nat->List Int->Int->Int->Option Cur
 |0,_,_,_=>none
 |n+1,x0,x3,x4=>cond (decide (x4<x0.length)) (cond (decide (x4<4000)) (ite (0<=x4/\x4<x0.length) (JJ N n x0 (sI .i64 (i64.wrap ((i64.wrap ((i64.wrap (x3*131))+(i64.wrap (x0.getD x4.toNat Ty.byte.dflt))))+7)) 1073741823) (i64.wrap (x4+1))) none) (some (Cur.mk x0 0 x3))) (some (Cur.mk x0 0 x3))
def JI(N:Nat)(a0:List Int):Option Cur:=(JJ N N a0 (i64.wrap (26583+(a0.length:Int))) 0)
def Br(a0:Cur):List Arg:=[.box (Cu .ro a0)]
def NF(r:Int×Cur):CallO:=⟨(vI r.1),[(Cu .ro r.2)],[]⟩
def Fc(N:Nat)(a0:Cur):Option (Int×Cur):=cond (decide (a0.i<(a0.b.length:Int))) (if(0:Int)<=a0.i/\a0.i<a0.b.length then some ((sI .i64 (i64.wrap ((sI .i64 (zP .i64 (Int.fdiv (i64.wrap ((i64.wrap (a0.h*6364136223846793005))+1442695040888963407)) ((2:Int) ^ (Int.toNat 33))) (Int.fdiv (i64.wrap ((i64.wrap (a0.h*6364136223846793005))+1442695040888963407)) ((2:Int) ^ (Int.toNat 45)))) 255)+(i64.wrap (a0.b.getD a0.i.toNat Ty.byte.dflt)))) 255),(Cur.mk a0.b (i64.wrap (a0.i+1)) (i64.wrap ((i64.wrap (a0.h*6364136223846793005))+1442695040888963407)))) else none) (some ((sI .i64 (zP .i64 (Int.fdiv (i64.wrap ((i64.wrap (a0.h*6364136223846793005))+1442695040888963407)) ((2:Int) ^ (Int.toNat 33))) (Int.fdiv (i64.wrap ((i64.wrap (a0.h*6364136223846793005))+1442695040888963407)) ((2:Int) ^ (Int.toNat 45)))) 255),(Cur.mk a0.b a0.i (i64.wrap ((i64.wrap (a0.h*6364136223846793005))+1442695040888963407)))))
def Fb(a0:Cur)(a1:Int):List Arg:=[.box (Cu .ro a0),.val (vI a1)]
def AT(N:Nat)(a0:Cur)(a1:Int):Option (Int×Cur):=cond (decide (a1<=0)) (some (0,a0)) (cond (decide (a1<=256)) ((Fc N a0).bind fun r1=>if a1≠(0:Int) then some ((Int.tmod r1.1 a1),r1.2) else none) ((Fc N a0).bind fun r1=>(Fc N r1.2).bind fun r2=>(Fc N r2.2).bind fun r3=>(Fc N r3.2).bind fun r4=>if a1≠(0:Int) then some ((Int.tmod (i64.wrap ((i64.wrap ((i64.wrap ((i64.wrap (r1.1*16777216))+(i64.wrap (r2.1*65536))))+(i64.wrap (r3.1*256))))+r4.1)) a1),r4.2) else none))
def xAK(r:Str×Cur):CallO:=⟨(vTq r.1),[(Cu .ro r.2)],[]⟩
def Be(N:Nat)(a0:Cur)(a1:List Str):Option (Str×Cur):=(AT N a0 (a1.length:Int)).bind fun r1=>if(0:Int)<=r1.1/\r1.1<a1.length then some ((a1.getD r1.1.toNat Ds),r1.2) else none
def xAx(r:Exp):CallO:=⟨.v true (Ex .own r),[],[]⟩
def BU(N:Nat)(a0:Int):Option Exp:=some (Exp.mk 1 a0 [] [])
def Kj(N:Nat)(a0:Str):Option Exp:=some (Exp.mk 3 0 a0 [])
def Mu(r:Exp×Cur):CallO:=⟨.v true (Ex .own r.1),[(Cu .ro r.2)],[]⟩
def Iy(N:Nat)(a0:Cur)(a1:List Str):Option (Exp×Cur):=(AT N a0 5).bind fun r1=>cond (r1.1==0) ((Be N r1.2 [[97],[97,98],[],[98]]).bind fun r2=>some ((Exp.mk 2 0 r2.1 []),r2.2)) (cond (r1.1==1) ((AT N r1.2 6).bind fun r2=>(BU N r2.1).bind fun r3=>some (r3,r2.2)) (cond (r1.1==2) ((AT N r1.2 6).bind fun r2=>(BU N r2.1).bind fun r3=>some (r3,r2.2)) ((Be N r1.2 a1).bind fun r2=>(Kj N r2.1).bind fun r3=>some (r3,r2.2))))
def xAy(r:Exp):CallO:=⟨.v true (Ex .tip r),[],[]⟩
def Dg(N:Nat)(a0:Int)(a1 a2:Exp):Option Exp:=some (Exp.mk 6 a0 [] [a1.re,a2.re])
def xJZ(r:Bool×Cur):CallO:=⟨(vB r.1),[(Cu .ro r.2)],[]⟩
def BM(N:Nat)(a0:Cur)(a1:Int):Option (Bool×Cur):=(AT N a0 a1).bind fun r1=>some ((r1.1==0),r1.2)
def HL(N:Nat):Nat->List Str->Int->Int->Cur->Exp->Exp->Option (Exp×Cur)
 |0,_,_,_,_,_,_=>none
 |n+1,x1,x6,x7,b0,b4,b5=>cond (decide (x7<x6)) ((AT N b0 5).bind fun r1=>(BU N r1.1).bind fun r2=>if b5.args.length+ [r2.re].length<=Lim then(BM N r1.2 4).bind fun r3=>cond r3.1 ((Iy N r3.2 x1).bind fun r4=>if(0:Int)<=x7/\x7<(List.length (b5.args++ [r2.re])) then(HL N n x1 x6 (i64.wrap (x7+1)) r4.2 b4 (Exp.mk b5.kind b5.n b5.text ((fun(z2:List Exp)=>z2.set x7.toNat r4.1.re) (b5.args++ [r2.re])))) else none) (HL N n x1 x6 (i64.wrap (x7+1)) r3.2 b4 (Exp.mk b5.kind b5.n b5.text (b5.args++ [r2.re]))) else none) (some (b5,b0))
def E0(N:Nat)(a0:Cur)(a1:List Str):Option (Exp×Cur):=(AT N a0 4).bind fun r1=>(HL N N a1 r1.1 0 r1.2 (Exp.mk 0 0 [] []) (Exp.mk 4 0 [] []))
def Cb(r:Exp×Cur):CallO:=⟨.v true (Ex .tip r.1),[(Cu .ro r.2)],[]⟩
def Fe(N:Nat)(a0:Cur)(a1 a2:Exp):Option (Exp×Cur):=(BM N a0 2).bind fun r1=>cond r1.1 (some (a1,r1.2)) (some (a2,r1.2))
def BK(N:Nat)(a0:Str)(a1:List Exp):Option Exp:=some (Exp.mk 5 0 a0 a1)
def Ki(N:Nat)(a0:Cur):Option (Exp×Cur):=(Be N a0 [[97],[97],[98],[99],[120]]).bind fun r1=>some ((Exp.mk 2 0 r1.1 []),r1.2)
def JD(N:Nat):Nat->Int->Int->Cur->Exp->Exp->Option (Exp×Cur)
 |0,_,_,_,_,_=>none
 |n+1,x4,x5,b0,b2,b3=>cond (decide (x5<x4)) ((AT N b0 3).bind fun r1=>(BU N r1.1).bind fun r2=>(AT N r1.2 4).bind fun r3=>(BU N r3.1).bind fun r4=>if b3.args.length+List.length [(Exp.mk 4 0 [] [r2.re,r4.re])]<=Lim then(JD N n x4 (i64.wrap (x5+1)) r3.2 b2 (Exp.mk b3.kind b3.n b3.text (b3.args++ [(Exp.mk 4 0 [] [r2.re,r4.re])]))) else none) ((BK N [116,97,98,108,101] [(Exp.mk 2 0 [97,32,98] []),b3.re]).bind fun r1=>some (r1,b0))
def Kk(N:Nat)(a0:Cur):Option (Exp×Cur):=(AT N a0 4).bind fun r1=>(JD N N r1.1 0 r1.2 (Exp.mk 0 0 [] []) (Exp.mk 4 0 [] []))
def JB(N:Nat)(q0:Cur->List Str->Int->Option (Exp×Cur))(a0:Cur)(a1:List Str)(a2:Int):Option (Exp×Cur):=cond (decide (a2<2)) ((Iy N a0 a1).bind fun r1=>some (r1.1,r1.2)) ((AT N a0 13).bind fun r1=>cond (r1.1==0) ((AT N r1.2 5).bind fun r2=>(q0 r2.2 a1 (i64.wrap (a2 - 1))).bind fun r3=>(q0 r3.2 a1 (i64.wrap (a2 - 1))).bind fun r4=>(Dg N (i64.wrap (1+r2.1)) r3.1 r4.1).bind fun r5=>some (r5,r4.2)) (cond (r1.1==1) ((AT N r1.2 5).bind fun r2=>(q0 r2.2 a1 (i64.wrap (a2 - 1))).bind fun r3=>(q0 r3.2 a1 (i64.wrap (a2 - 1))).bind fun r4=>(Dg N (i64.wrap (1+r2.1)) r3.1 r4.1).bind fun r5=>some (r5,r4.2)) (cond (r1.1==2) (if(0:Int)<=0/\(0:Int)<a1.length then(Be N r1.2 [[117],[118],(a1.getD (Int.toNat 0) Ds)]).bind fun r2=>(q0 r2.2 a1 (i64.wrap (a2 - 1))).bind fun r3=>if [r2.1].length+a1.length<=Lim then(q0 r3.2 ([r2.1]++a1) (i64.wrap (a2 - 1))).bind fun r4=>some ((Exp.mk 7 0 r2.1 [r3.1.re,r4.1.re]),r4.2) else none else none) (cond (r1.1==3) ((q0 r1.2 a1 (i64.wrap (a2 - 1))).bind fun r2=>(q0 r2.2 a1 (i64.wrap (a2 - 1))).bind fun r3=>(q0 r3.2 a1 (i64.wrap (a2 - 1))).bind fun r4=>some ((Exp.mk 8 0 [] [r2.1.re,r3.1.re,r4.1.re]),r4.2)) (cond (r1.1==4) (if(0:Int)<=0/\(0:Int)<a1.length then(Be N r1.2 [[117],[118],(a1.getD (Int.toNat 0) Ds)]).bind fun r2=>(E0 N r2.2 a1).bind fun r3=>if [r2.1,r2.1].length+a1.length<=Lim then(q0 r3.2 ([r2.1,r2.1]++a1) (i64.wrap (a2 - 1))).bind fun r4=>some ((Exp.mk 9 0 r2.1 [r3.1.re,r4.1.re]),r4.2) else none else none) (cond (r1.1==5) ((E0 N r1.2 a1).bind fun r2=>some (r2.1,r2.2)) (cond (r1.1==6) ((Be N r1.2 [[108,101,110],[115,117,109]]).bind fun r2=>(E0 N r2.2 a1).bind fun r3=>(q0 r3.2 a1 (i64.wrap (a2 - 1))).bind fun r4=>(Fe N r4.2 r3.1 r4.1).bind fun r5=>(BK N r2.1 [r5.1.re]).bind fun r6=>some (r6,r5.2)) (cond (r1.1==7) ((Be N r1.2 [[116,97,107,101],[115,107,105,112],[110,116,104],[116,97,107,101]]).bind fun r2=>(AT N r2.2 4).bind fun r3=>(BU N r3.1).bind fun r4=>(E0 N r3.2 a1).bind fun r5=>(AT N r5.2 9).bind fun r6=>(BU N r6.1).bind fun r7=>(AT N r6.2 4).bind fun r8=>(BU N r8.1).bind fun r9=>(BK N [114,97,110,103,101] [r7.re,r9.re]).bind fun r10=>(Fe N r8.2 r5.1 r10).bind fun r11=>(BK N r2.1 [r4.re,r11.1.re]).bind fun r12=>some (r12,r11.2)) (cond (r1.1==8) ((Ki N r1.2).bind fun r2=>(AT N r2.2 3).bind fun r3=>(BU N r3.1).bind fun r4=>(Kk N r3.2).bind fun r5=>(q0 r5.2 a1 (i64.wrap (a2 - 1))).bind fun r6=>(Fe N r6.2 r5.1 r6.1).bind fun r7=>(BK N [119,104,101,114,101] [r2.1.re,r4.re,r7.1.re]).bind fun r8=>some (r8,r7.2)) (cond (r1.1==9) ((Ki N r1.2).bind fun r2=>(Ki N r2.2).bind fun r3=>(Kk N r3.2).bind fun r4=>(q0 r4.2 a1 (i64.wrap (a2 - 1))).bind fun r5=>(Fe N r5.2 r4.1 r5.1).bind fun r6=>(BK N [103,114,111,117,112] [r2.1.re,r3.1.re,r6.1.re]).bind fun r7=>some (r7,r6.2)) (cond (r1.1==10) ((Kk N r1.2).bind fun r2=>(q0 r2.2 a1 (i64.wrap (a2 - 1))).bind fun r3=>(Fe N r3.2 r2.1 r3.1).bind fun r4=>(BK N [114,111,119,115] [r4.1.re]).bind fun r5=>some (r5,r4.2)) (cond (r1.1==11) ((AT N r1.2 6).bind fun r2=>(BU N (i64.wrap (1+r2.1))).bind fun r3=>(BK N [99,104,97,110,99,101] [r3.re]).bind fun r4=>some (r4,r2.2)) ((BK N [99,108,111,99,107] []).bind fun r2=>(Be N r1.2 [[102],[103],[104]]).bind fun r3=>(BK N [102,105,108,101] [(Exp.mk 2 0 r3.1 [])]).bind fun r4=>(Fe N r3.2 r2 r4).bind fun r5=>some (r5.1,r5.2))))))))))))))
def E4(N:Nat):Nat->Cur->List Str->Int->Option (Exp×Cur)
 |0,_,_,_=>none
 |d+1,a0,a1,a2=>JB N (E4 N d) a0 a1 a2
def PU(N:Nat)(a0:Cur)(a1:List Str)(a2:Int):Option (Exp×Cur):=E4 N N a0 a1 a2
def Ms(N:Nat)(a0:Cur):Option (Exp×Cur):=(AT N a0 4).bind fun r1=>(PU N r1.2 [[97],[98],[99]] (i64.wrap (1+r1.1))).bind fun r2=>(Cr N r2.1).bind fun r3=>cond (!r3) ((Iy N r2.2 [[97],[98],[99]]).bind fun r4=>some (r4.1,r4.2)) (some (r2.1,r2.2))
def NA(N:Nat)(a0:Cur):Option (Exp×Cur):=(Ms N a0).bind fun r1=>(BM N r1.2 3).bind fun r2=>cond (!r2.1) ((BK N [99,108,111,99,107] []).bind fun r3=>(AT N r2.2 5).bind fun r4=>(BU N r4.1).bind fun r5=>(BK N [99,104,97,110,99,101] [r5.re]).bind fun r6=>(Dg N 1 r6 r1.1).bind fun r7=>(Dg N 1 r3 r7).bind fun r8=>(BM N r4.2 4).bind fun r9=>cond r9.1 ((E0 N r9.2 [[97]]).bind fun r10=>(Cr N (Exp.mk 9 0 [117] [r10.1.re,r8.re])).bind fun r11=>cond (!r11) ((BK N [99,108,111,99,107] []).bind fun r12=>some (r12,r10.2)) (some ((Exp.mk 9 0 [117] [r10.1.re,r8.re]),r10.2))) ((Cr N r8).bind fun r10=>cond (!r10) ((BK N [99,108,111,99,107] []).bind fun r11=>some (r11,r9.2)) (some (r8,r9.2)))) ((BM N r2.2 4).bind fun r3=>cond r3.1 ((E0 N r3.2 [[97]]).bind fun r4=>(Cr N (Exp.mk 9 0 [117] [r4.1.re,r1.1.re])).bind fun r5=>cond (!r5) ((BK N [99,108,111,99,107] []).bind fun r6=>some (r6,r4.2)) (some ((Exp.mk 9 0 [117] [r4.1.re,r1.1.re]),r4.2))) ((Cr N r1.1).bind fun r4=>cond (!r4) ((BK N [99,108,111,99,107] []).bind fun r5=>some (r5,r3.2)) (some (r1.1,r3.2))))
def P1(N:Nat)(b0:Cur)(b2 b3:Exp):Option (Exp×Cur):=(BK N [99,108,111,99,107] []).bind fun r1=>(BM N b0 2).bind fun r2=>cond r2.1 ((Kj N [118]).bind fun r3=>(Kj N [117]).bind fun r4=>(Dg N 1 r3 r4).bind fun r5=>some ((Exp.mk 9 0 [117] [b3.re,(Exp.mk 9 0 [118] [b3.re,r5.re])]),r2.2)) (some ((Exp.mk 9 0 [117] [b3.re,(Exp.mk 9 0 [118] [b3.re,r1.re])]),r2.2))
def JF(N:Nat):Nat->Int->Int->Cur->Exp->Exp->Option (Exp×Cur)
 |0,_,_,_,_,_=>none
 |n+1,x4,x5,b0,b2,b3=>cond (decide (x5<x4)) ((BU N x5).bind fun r1=>if b3.args.length+ [r1.re].length<=Lim then(JF N n x4 (i64.wrap (x5+1)) b0 b2 (Exp.mk b3.kind b3.n b3.text (b3.args++ [r1.re]))) else none) (P1 N b0 b2 b3)
def P0(N:Nat)(a0:Cur):Option (Exp×Cur):=(AT N a0 4).bind fun r1=>(JF N N (i64.wrap (5+r1.1)) 0 r1.2 (Exp.mk 0 0 [] []) (Exp.mk 4 0 [] []))
def Ff(N:Nat)(a0:Cur)(a1:List Int):Option (Int×Cur):=(AT N a0 (a1.length:Int)).bind fun r1=>if(0:Int)<=r1.1/\r1.1<a1.length then some ((a1.getD r1.1.toNat Di),r1.2) else none
def HK(N:Nat):Nat->Int->Cur->Exp->Exp->Option (Exp×Cur)
 |0,_,_,_,_=>none
 |n+1,x4,b0,b2,b3=>cond (decide (x4<7)) ((BU N x4).bind fun r1=>(Dg N 1 b3 r1).bind fun r2=>(HK N n (i64.wrap (x4+1)) b0 b2 r2)) (some (b3,b0))
def Mq(N:Nat)(a0:Cur):Option (Exp×Cur):=(Ms N a0).bind fun r1=>(AT N r1.2 12).bind fun r2=>cond (r2.1==0) ((AT N r2.2 11).bind fun r3=>some ((Exp.mk r3.1 r1.1.n r1.1.text r1.1.args),r3.2)) (cond (r2.1==1) ((Iy N r2.2 [[97]]).bind fun r3=>if r1.1.args.length+ [r3.1.re].length<=Lim then some ((Exp.mk r1.1.kind r1.1.n r1.1.text (r1.1.args++ [r3.1.re])),r3.2) else none) (cond (r2.1==2) ((Be N r2.2 [[108,101,116],[115,117,109],[],[120]]).bind fun r3=>some ((Exp.mk r1.1.kind r1.1.n r3.1 r1.1.args),r3.2)) (cond (r2.1==3) ((Ff N r2.2 [(-1),7,1000000001]).bind fun r3=>some ((Exp.mk r1.1.kind r3.1 r1.1.text r1.1.args),r3.2)) (cond (r2.1==4) (HK N N 0 r2.2 (Exp.mk 0 0 [] []) r1.1) (some (r1.1,r2.2))))))
def CM(N:Nat)(a0:Cur):Option (Int×Cur):=(BM N a0 12).bind fun r1=>cond r1.1 ((Ff N r1.2 [1000000000,(-1000000000),999999999,500000000,40000]).bind fun r2=>some (r2.1,r2.2)) ((AT N r1.2 12).bind fun r2=>some ((i64.wrap (r2.1 - 3)),r2.2))
def H3(N:Nat)(a0:Cur):Option (Str×Cur):=(Be N a0 [[],[97],[98],[97,98],[104,101,108,108,111],[116,119,101,110,116,121,32,99,104,97,114,97,99,116,101,114,115,32,111,107],[110,105,110,101,116,101,101,110,32,99,104,97,114,97,99,116,101,114,46]]).bind fun r1=>some (r1.1,r1.2)
def Bt(r:Val×Cur):CallO:=⟨(vV .own r.1),[(Cu .ro r.2)],[]⟩
def HY(N:Nat)(q0 q1:Cur->Int->Option (Val×Cur)):Nat->Int->Int->Int->Cur->Val->Val->Option (Val×Cur)
 |0,_,_,_,_,_,_=>none
 |n+1,x1,x6,x7,b0,b4,b5=>cond (decide (x7<x6)) ((q1 b0 x1).bind fun r1=>if b5.list.length+ [r1.1.re].length<=Lim then(HY N q0 q1 n x1 x6 (i64.wrap (x7+1)) r1.2 b4 (Val.mk b5.kind b5.n b5.step b5.text (b5.list++ [r1.1.re]) b5.columns b5.rows)) else none) (some (b5,b0))
def NL(N:Nat)(q0 q1:Cur->Int->Option (Val×Cur))(a0:Cur)(a1:Int):Option (Val×Cur):=(Ff N a0 [0,1,2,3,3,4,5,8]).bind fun r1=>(HY N q0 q1 N a1 r1.1 0 r1.2 (Val.mk 0 0 0 [] [] [] []) (Val.mk 3 0 0 [] [] [] []))
def NM(N:Nat)(q0 q1:Cur->Int->Option (Val×Cur))(a0:Cur)(a1:Int):Option (Val×Cur):=cond (decide (a1>1)) ((BM N a0 4).bind fun r1=>cond r1.1 ((q0 r1.2 (i64.wrap (a1 - 1))).bind fun r2=>some (r2.1,r2.2)) ((BM N r1.2 4).bind fun r2=>cond r2.1 ((H3 N r2.2).bind fun r3=>(Df N r3.1).bind fun r4=>some (r4,r3.2)) ((CM N r2.2).bind fun r3=>(A6 N r3.1).bind fun r4=>some (r4,r3.2)))) ((BM N a0 4).bind fun r1=>cond r1.1 ((H3 N r1.2).bind fun r2=>(Df N r2.1).bind fun r3=>some (r3,r2.2)) ((CM N r1.2).bind fun r2=>(A6 N r2.1).bind fun r3=>some (r3,r2.2)))
structure Rq4 where
 c12:Cur->Int->Option (Val×Cur)
 c13:Cur->Int->Option (Val×Cur)
def BV(N:Nat):Nat->Rq4
 |0=>⟨fun _ _=>none,fun _ _=>none⟩
 |d+1=>⟨NL N (BV N d).c12 (BV N d).c13,NM N (BV N d).c12 (BV N d).c13⟩
def P9(N:Nat)(a0:Cur)(a1:Int):Option (Val×Cur):=(BV N N).c12 a0 a1
def H0(N:Nat):Nat->Int->Int->Cur->Val->Val->Option (Val×Cur)
 |0,_,_,_,_,_=>none
 |n+1,x4,x5,b0,b2,b3=>cond (decide (x5<x4)) ((CM N b0).bind fun r1=>(A6 N r1.1).bind fun r2=>if b3.list.length+ [r2.re].length<=Lim then(H0 N n x4 (i64.wrap (x5+1)) r1.2 b2 (Val.mk b3.kind b3.n b3.step b3.text (b3.list++ [r2.re]) b3.columns b3.rows)) else none) (some (b3,b0))
def Pb(N:Nat)(a0:Cur):Option (Val×Cur):=(AT N a0 9).bind fun r1=>(H0 N N r1.1 0 r1.2 (Val.mk 0 0 0 [] [] [] []) (Val.mk 3 0 0 [] [] [] []))
def xAQ(r:(List Org)×Cur):CallO:=⟨(vS .own .org r.1),[(Cu .ro r.2)],[]⟩
def JO(N:Nat):Nat->List Org->Int->Int->Int->Cur->Option ((List Org)×Cur)
 |0,_,_,_,_,_=>none
 |n+1,x3,x4,x5,x6,b0=>cond (decide (x6<x5)) ((AT N b0 2).bind fun r1=>if x3.length+ [(Org.mk x4 (i64.wrap (x6+(i64.wrap (r1.1*2)))))].length<=Lim then(AT N r1.2 2).bind fun r2=>(JO N n (x3++ [(Org.mk x4 (i64.wrap (x6+(i64.wrap (r1.1*2)))))]) (i64.wrap ((i64.wrap (x4+1))+r2.1)) x5 (i64.wrap (x6+1)) r2.2) else none) (some (x3,b0))
def Pa(N:Nat)(a0:Cur):Option ((List Org)×Cur):=(AT N a0 3).bind fun r1=>(JO N N [] 1 r1.1 0 r1.2)
def JN(N:Nat)(k10:Int->Int->Int->Cur->Val->Val->Option (Val×Cur)):Nat->Int->Int->Int->Int->Cur->Val->Val->Rowd->Option (Val×Cur)
 |0,_,_,_,_,_,_,_,_=>none
 |n+1,x4,x6,x7,x9,b0,b2,b5,b8=>cond (decide (x9<x4)) ((CM N b0).bind fun r1=>if b8.cells.length+ [r1.1].length<=Lim then(JN N k10 n x4 x6 x7 (i64.wrap (x9+1)) r1.2 b2 b5 (Rowd.mk (b8.cells++ [r1.1]) b8.frm)) else none) (if b5.rows.length+ [b8].length<=Lim then(k10 x4 x6 (i64.wrap (x7+1)) b0 b2 (Val.mk b5.kind b5.n b5.step b5.text b5.list b5.columns (b5.rows++ [b8]))) else none)
def E9(N:Nat):Nat->Int->Int->Int->Cur->Val->Val->Option (Val×Cur)
 |0,_,_,_,_,_,_=>none
 |n+1,x4,x6,x7,b0,b2,b5=>cond (decide (x7<x6)) ((Pa N b0).bind fun r1=>(JN N (fun z0 z1 z2 z3 z4 z5=>(E9 N n z0 z1 z2 z3 z4 z5)) N x4 x6 x7 0 r1.2 b2 b5 (Rowd.mk [] r1.1))) (some (b5,b0))
def Kn(N:Nat)(a0:Cur):Option (Val×Cur):=(AT N a0 3).bind fun r1=>if(0:Int)<=(i64.wrap (1+r1.1))/\(i64.wrap (1+r1.1))<=(List.length ([[97],[98],[99],[120]]:List Str)) then if 0+List.length (List.take (Int.toNat (i64.wrap (1+r1.1))) ([[97],[98],[99],[120]]:List Str))<=Lim then(BM N r1.2 5).bind fun r2=>cond r2.1 (if(0:Int)<=0/\(0:Int)<(List.length ([]++(List.take (Int.toNat (i64.wrap (1+r1.1))) ([[97],[98],[99],[120]]:List Str)))) then if(0:Int)<=1/\(1:Int)<=(List.length ((fun(z8:List Str)=>z8.set (Int.toNat 0) [120]) ([]++(List.take (Int.toNat (i64.wrap (1+r1.1))) ([[97],[98],[99],[120]]:List Str))))) then(AT N r2.2 6).bind fun r3=>(E9 N N 1 r3.1 0 r3.2 (Val.mk 0 0 0 [] [] [] []) (Val.mk 5 0 0 [] [] (List.take (Int.toNat 1) ((fun(z8:List Str)=>z8.set (Int.toNat 0) [120]) ([]++(List.take (Int.toNat (i64.wrap (1+r1.1))) ([[97],[98],[99],[120]]:List Str))))) [])) else none else none) ((AT N r2.2 6).bind fun r3=>(E9 N N (i64.wrap (1+r1.1)) r3.1 0 r3.2 (Val.mk 0 0 0 [] [] [] []) (Val.mk 5 0 0 [] [] ([]++(List.take (Int.toNat (i64.wrap (1+r1.1))) ([[97],[98],[99],[120]]:List Str))) []))) else none else none
def NK(N:Nat)(a0:Cur):Option (Val×Cur):=(AT N a0 10).bind fun r1=>cond (r1.1==0) ((CM N r1.2).bind fun r2=>(A6 N r2.1).bind fun r3=>some (r3,r2.2)) (cond (r1.1==1) ((CM N r1.2).bind fun r2=>(A6 N r2.1).bind fun r3=>some (r3,r2.2)) (cond (r1.1==2) ((CM N r1.2).bind fun r2=>(A6 N r2.1).bind fun r3=>some (r3,r2.2)) (cond (r1.1==3) ((H3 N r1.2).bind fun r2=>(Df N r2.1).bind fun r3=>some (r3,r2.2)) (cond (r1.1==4) ((P9 N r1.2 3).bind fun r2=>some (r2.1,r2.2)) (cond (r1.1==5) ((Pb N r1.2).bind fun r2=>some (r2.1,r2.2)) (cond (r1.1==6) ((CM N r1.2).bind fun r2=>(CM N r2.2).bind fun r3=>(It N r2.1 r3.1).bind fun r4=>some (r4,r3.2)) (cond (r1.1==7) ((AT N r1.2 8).bind fun r2=>(AK N (i64.wrap (1+r2.1))).bind fun r3=>some (r3,r2.2)) ((Kn N r1.2).bind fun r2=>some (r2.1,r2.2)))))))))
def Is(N:Nat):Nat->Int->Int->Val->Val->Option Val
 |0,_,_,_,_=>none
 |n+1,x0,x6,b4,b5=>cond (decide (x6<b5.rows.length)) (ite (0<=x6/\x6<b5.rows.length) (Is N n x0 (i64.wrap (x6+1)) b4 (Val.mk b5.kind b5.n b5.step b5.text b5.list b5.columns (b5.rows.set x6.toNat (Rowd.mk (Rowd.cells (b5.rows.getD x6.toNat Ty.row.dflt)) [(Org.mk x0 x6)])))) none) (some b5)
def Mn(N:Nat)(a0:Int)(a1:Val):Option Val:=cond (a1.kind != 5) ((AK N 4).bind fun r1=>some r1) ((In N a1).bind fun r1=>cond (!r1) ((AK N 4).bind fun r2=>some r2) (cond (decide (a0<0)) ((AK N 4).bind fun r2=>some r2) ((B1 N a1).bind fun r2=>(Is N N a0 0 (Val.mk 0 0 0 [] [] [] []) r2))))
def JX(N:Nat)(k3:Int->Int->Cur->Val->Val->Option (Val×Cur)):Nat->Int->Int->Int->Cur->Val->Val->Option (Val×Cur)
 |0,_,_,_,_,_,_=>none
 |n+1,x1,x6,x7,b0,b4,b5=>ite (0<=x6/\x6<b5.rows.length) (cond (decide (x7<(List.length (Rowd.cells (b5.rows.getD x6.toNat Ty.row.dflt)):Int))) ((AT N b0 4).bind fun r1=>if(0:Int)<=x7/\x7<(List.length (Rowd.cells (b5.rows.getD x6.toNat Ty.row.dflt))) then(JX N k3 n x1 x6 (i64.wrap (x7+1)) r1.2 b4 (Val.mk b5.kind b5.n b5.step b5.text b5.list b5.columns (b5.rows.set x6.toNat (Rowd.mk ((fun(z1:List Int)=>z1.set x7.toNat r1.1) (Rowd.cells (b5.rows.getD x6.toNat Ty.row.dflt))) (Rowd.frm (b5.rows.getD x6.toNat Ty.row.dflt)))))) else none) (k3 x1 (i64.wrap (x6+1)) b0 b4 b5)) none
def H6(N:Nat):Nat->Int->Int->Cur->Val->Val->Option (Val×Cur)
 |0,_,_,_,_,_=>none
 |n+1,x1,x6,b0,b4,b5=>cond (decide (x6<b5.rows.length)) (JX N (fun z0 z1 z2 z3 z4=>(H6 N n z0 z1 z2 z3 z4)) N x1 x6 0 b0 b4 b5) ((Mn N x1 b5).bind fun r1=>some (r1,b0))
def NT(N:Nat)(a0:Cur)(a1:Int):Option (Val×Cur):=(Kn N a0).bind fun r1=>(H6 N N a1 0 r1.2 (Val.mk 0 0 0 [] [] [] []) r1.1)
def xAB(r:(List Bnd)×Cur):CallO:=⟨(vS .own .bnd r.1),[(Cu .ro r.2)],[]⟩
def HN(N:Nat):Nat->List Bnd->Int->Int->Cur->Option ((List Bnd)×Cur)
 |0,_,_,_,_=>none
 |n+1,x3,x4,x5,b0=>cond (decide (x5<x4)) ((NK N b0).bind fun r1=>(BM N r1.2 3).bind fun r2=>cond r2.1 ((AT N r2.2 3).bind fun r3=>(NT N r3.2 (i64.wrap (1+r3.1))).bind fun r4=>(Be N r4.2 [[97],[98],[99]]).bind fun r5=>if x3.length+ [(Bnd.mk r5.1 r4.1.re)].length<=Lim then(HN N n (x3++ [(Bnd.mk r5.1 r4.1.re)]) x4 (i64.wrap (x5+1)) r5.2) else none) ((Be N r2.2 [[97],[98],[99]]).bind fun r3=>if x3.length+ [(Bnd.mk r3.1 r1.1.re)].length<=Lim then(HN N n (x3++ [(Bnd.mk r3.1 r1.1.re)]) x4 (i64.wrap (x5+1)) r3.2) else none)) (some (x3,b0))
def F9(N:Nat)(a0:Cur):Option ((List Bnd)×Cur):=(AT N a0 5).bind fun r1=>(HN N N [] r1.1 0 r1.2)
def xJI(r:Rea×Cur):CallO:=⟨.v true (Rc .own r.1),[(Cu .ro r.2)],[]⟩
def PX(N:Nat)(a0:Cur):Option (Rea×Cur):=(AT N a0 3).bind fun r1=>(AT N r1.2 7).bind fun r2=>(Be N r2.2 [[102],[103],[104],[122]]).bind fun r3=>(AT N r3.2 3).bind fun r4=>some ((Rea.mk (i64.wrap (1+r1.1)) r2.1 r4.1 r3.1 (Val.mk 0 0 0 [] [] [] [])),r4.2)
def xAF(r:(List Rea)×Cur):CallO:=⟨(vS .own .rea r.1),[(Cu .ro r.2)],[]⟩
def Fa(N:Nat):Nat->List Rea->Int->Int->Cur->Option ((List Rea)×Cur)
 |0,_,_,_,_=>none
 |n+1,x3,x4,x5,b0=>cond (decide (x5<x4)) ((PX N b0).bind fun r1=>cond (r1.1.kind != 2) (cond (r1.1.kind != 3) ((A6 N (i64.wrap (50+x5))).bind fun r2=>if x3.length+List.length [(Rea.mk r1.1.kind 0 r1.1.time [] r2.re)]<=Lim then(Fa N n (x3++ [(Rea.mk r1.1.kind 0 r1.1.time [] r2.re)]) x4 (i64.wrap (x5+1)) r1.2) else none) ((A6 N (i64.wrap (50+x5))).bind fun r2=>if x3.length+ [(Rea.mk r1.1.kind 0 r1.1.time r1.1.text r2.re)].length<=Lim then(Fa N n (x3++ [(Rea.mk r1.1.kind 0 r1.1.time r1.1.text r2.re)]) x4 (i64.wrap (x5+1)) r1.2) else none)) ((A6 N (i64.wrap (50+x5))).bind fun r2=>if x3.length+List.length [(Rea.mk r1.1.kind r1.1.n r1.1.time [] r2.re)]<=Lim then(Fa N n (x3++ [(Rea.mk r1.1.kind r1.1.n r1.1.time [] r2.re)]) x4 (i64.wrap (x5+1)) r1.2) else none)) (some (x3,b0))
def HQ(N:Nat)(a0:Cur):Option ((List Rea)×Cur):=(AT N a0 4).bind fun r1=>(Fa N N [] r1.1 0 r1.2)
def xAz(r:Wld×Cur):CallO:=⟨.v true (Wc .own r.1),[(Cu .ro r.2)],[]⟩
def E5(N:Nat):Nat->List Str->Int->Int->Cur->Wld->Wld->Option (Wld×Cur)
 |0,_,_,_,_,_,_=>none
 |n+1,x17,x18,x19,b0,b2,b3=>cond (decide (x19<x18)) (ite (0<=x19/\x19<x17.length) ((BM N b0 3).bind fun r1=>cond (!r1.1) ((AT N r1.2 9).bind fun r2=>if b3.files.length+ [(Fil.mk (x17.getD x19.toNat Ds) r2.1)].length<=Lim then(E5 N n x17 x18 (i64.wrap (x19+1)) r2.2 b2 (Wld.mk b3.clock b3.seed (b3.files++ [(Fil.mk (x17.getD x19.toNat Ds) r2.1)]))) else none) (E5 N n x17 x18 (i64.wrap (x19+1)) r1.2 b2 b3)) none) (some (b3,b0))
def HM(N:Nat)(a0:Cur):Option (Wld×Cur):=(AT N a0 20).bind fun r1=>(AT N r1.2 1000).bind fun r2=>(BM N r2.2 10).bind fun r3=>cond r3.1 ((AT N r3.2 2).bind fun r4=>(E5 N N [[102],[103],[104]] (List.length [[102],[103],[104]]:Int) 0 r4.2 (Wld.mk 0 0 []) (Wld.mk (i64.wrap (999+r4.1)) r2.1 []))) (E5 N N [[102],[103],[104]] (List.length [[102],[103],[104]]:Int) 0 r3.2 (Wld.mk 0 0 []) (Wld.mk r1.1 r2.1 []))
def xIS(r:Exp×(List Bnd)×(List Rea)×Wld×Int×Int):CallO:=⟨.tup [(true,(Ex .tip r.1)),(false,[.sl .own .bnd r.2.1]),(false,[.sl .own .rea r.2.2.1]),(true,(Wc .own r.2.2.2.1)),(false,[.int .i64 r.2.2.2.2.1]),(false,[.int .i64 r.2.2.2.2.2])],[],[]⟩
def Ma(N:Nat)(a0:List Int):Option (Exp×(List Bnd)×(List Rea)×Wld×Int×Int):=(JI N a0).bind fun r1=>(NA N r1).bind fun r2=>(BM N r2.2 10).bind fun r3=>cond r3.1 ((P0 N r3.2).bind fun r4=>(BM N r4.2 16).bind fun r5=>cond r5.1 ((Mq N r5.2).bind fun r6=>(F9 N r6.2).bind fun r7=>(HQ N r7.2).bind fun r8=>(HM N r8.2).bind fun r9=>(AT N r9.2 9).bind fun r10=>(AT N r10.2 5).bind fun r11=>some (r6.1,r7.1,r8.1,r9.1,(i64.wrap (1+r10.1)),(i64.wrap (1+r11.1)))) ((F9 N r5.2).bind fun r6=>(HQ N r6.2).bind fun r7=>(HM N r7.2).bind fun r8=>(AT N r8.2 9).bind fun r9=>(AT N r9.2 5).bind fun r10=>some (r4.1,r6.1,r7.1,r8.1,(i64.wrap (1+r9.1)),(i64.wrap (1+r10.1))))) ((BM N r3.2 16).bind fun r4=>cond r4.1 ((Mq N r4.2).bind fun r5=>(F9 N r5.2).bind fun r6=>(HQ N r6.2).bind fun r7=>(HM N r7.2).bind fun r8=>(AT N r8.2 9).bind fun r9=>(AT N r9.2 5).bind fun r10=>some (r5.1,r6.1,r7.1,r8.1,(i64.wrap (1+r9.1)),(i64.wrap (1+r10.1)))) ((F9 N r4.2).bind fun r5=>(HQ N r5.2).bind fun r6=>(HM N r6.2).bind fun r7=>(AT N r7.2 9).bind fun r8=>(AT N r8.2 5).bind fun r9=>some (r2.1,r5.1,r6.1,r7.1,(i64.wrap (1+r8.1)),(i64.wrap (1+r9.1)))))
def Dt(N:Nat)(q0:Exp->Option Bool):Nat->List Exp->Int->Int->Option Bool
 |0,_,_,_=>none
 |n+1,x14,x15,x16=>cond (decide (x16<x15)) (ite (0<=x16/\x16<x14.length) ((q0 (x14.getD x16.toNat Dx)).bind fun r1=>cond r1 (some true) (Dt N q0 n x14 x15 (i64.wrap (x16+1)))) none) (some false)
def OF(N:Nat)(q0:Exp->Option Bool)(a0:Exp):Option Bool:=cond (a0.kind==5) ((D1 N a0.text).bind fun r1=>cond r1 (some true) (Dt N q0 N a0.args (a0.args.length:Int) 0)) (Dt N q0 N a0.args (a0.args.length:Int) 0)
def GJ(N:Nat):Nat->Exp->Option Bool
 |0,_=>none
 |d+1,a0=>OF N (GJ N d) a0
def Lg(N:Nat)(a0:Exp):Option Bool:=GJ N N a0
def K8(N:Nat)(a0 a1:Val):Option Bool:=(Kr N a0 a1 true).bind fun r1=>some r1
def ML(N:Nat)(a0:List Int):Option Bool:=(KE N a0).bind fun r1=>cond r1 (some true) ((Ma N a0).bind fun r2=>(Hr N r2.1 r2.2.1 r2.2.2.1 r2.2.2.2.1 r2.2.2.2.2.1 r2.2.2.2.2.2).bind fun r3=>(Lg N r2.1).bind fun r4=>(HD N r2.1).bind fun r5=>cond (!((r4:Bool)==r5)) (some false) ((K9 N r2.1 r2.2.1 r2.2.2.1 r2.2.2.2.1 r2.2.2.2.2.1 r2.2.2.2.2.2).bind fun r6=>(K8 N r3.value r6.value).bind fun r7=>cond (!r7) (some false) ((Lg N r2.1).bind fun r8=>cond r8 (some true) ((Hr N r2.1 r2.2.1 [] (Wld.mk 0 0 []) 1 1).bind fun r9=>cond ((r3.reads.length:Int)==0) ((K8 N r9.value r3.value).bind fun r10=>cond r10 (some (r9.steps==r3.steps)) (some false)) (some false)))))
end Go.Ab
end
section
namespace Go.Ab
open Go.Proofs Go.Shelf
variable {P:Program} {ρ:Ren}
theorem xDR(L:Lays.n125 P ρ):∀args w,(callFunc (ρ.f 125) args).run P w= .ok (.enter (ρ.f 125) args) w:=enters_of L.f125 (by kernel_rfl) rfl
end Go.Ab
end
section
namespace Go.Ab
open Go.Lib Go.Extern Go.Proofs Go.Shelf
variable [Inhabited Lb]
def OrgRow(w:World)(br cap:Nat)(xs:List Org):Prop:=
 xs.length<=cap/\∃cs ty lo hi,w.heap[br]? =some (.cells cs ty (lo,hi))/\cap*2=cs.size/\(∀o,lo<=o->o<hi->cap*2<=o)/\
  ∀m (hm:m<xs.length) k (hk:k<2),cs[m*2+k]? =some ((bV xs[m])[k]'hk)
theorem OrgRow.rd{E:Env}{br cap:Nat}{xs:List Org}(h:OrgRow E.w br cap xs){pl:Pl}{c:Nat}(ho:E.ow br=some (.arr pl c []))(hw:E.hw br=xs.length*2)(n:Nat)(hh:E.hdr n= .slice (some ⟨br,0,none⟩) xs.length cap):
 RdP E.w (okF E pl c (.lnt n)) (qF E pl c (.lnt n)) (.slice (some ⟨br,0,none⟩) xs.length cap) (.sl 2 (xs.map Ty.org.toD)):=by
 obtain⟨hcap,cs,ty,lo,hi,t4,t5,t6,hc⟩:=h;refine .sl br 0 xs.length cap 2 _ (fun m k=>if h:m<xs.length/\k<2 then(bV xs[m])[k]'h.2 else .bool false) (by simp) hcap (fun r hr=> ?_) ⟨⟨ho,hw,hcap,cs,ty,lo,hi,t4,t5,t6⟩,fun _=>hh.symm⟩ (fun m k hm hk=> ?_) (fun m k hm hk=> ?_)
 ·obtain⟨y,_,rfl⟩:=Zk.1 hr;exact Ty.toD_length .org y
 ·rw [dif_pos ⟨hm,hk⟩];refine⟨?_,?_,ho⟩
  all_goals grind [World.cell?]
 ·have hm' :m<xs.length:=by grind
  have hr:(xs.map Ty.org.toD)[m]=Ty.org.toD xs[m]:=by grind
  have hk' :k<2:=by rw [hr] at hk;exact hk
  rw [dif_pos ⟨hm',hk'⟩];simp only [hr]
  match k,hk' with
  |0,_=>exact .int .i64 _
  |1,_=>exact .int .i64 _
theorem OrgRow.of{E:Env}{pl:Pl}{c n br cap:Nat}{xs:List Org}(hx:xs≠ [])(h:RdP E.w (okF E pl c (.lnt n)) (qF E pl c (.lnt n)) (.slice (some ⟨br,0,none⟩) xs.length cap) (.sl 2 (xs.map Ty.org.toD))):OrgRow E.w br cap xs:=by
 obtain⟨b,off,cap',e,hcap,hrl,hq,u,hcl,hk⟩:=RdP.cells h (by simpa using hx);rw [Zm] at e;obtain⟨rfl,rfl,rfl⟩:br=b/\0=off/\cap=cap' :=by grind
 obtain⟨t1,t2,t3,cs,ty,lo,hi',t4,t5,t6⟩:=hq.1;rw [Zm] at hcap;refine⟨hcap,cs,ty,lo,hi',t4,t5,t6,fun m hm k hk2=> ?_⟩;have g1:=(hcl m k (by grind) hk2).1;have hr:((xs.map Ty.org.toD)[m]'(by grind))=Ty.org.toD xs[m]:=by grind
 have g2:=hk m k (by grind) (by grind);rw [Zc] at g1;simp only [World.cell?,t4] at g1;simp only [hr] at g2
 match k,hk2,g1,g2 with
 |0,_,g1,g2=>generalize u m 0=x at g1 g2;simp only [Ty.toD,List.getElem_cons_zero] at g2;cases g2;exact g1
 |1,_,g1,g2=>generalize u m 1=x at g1 g2;simp only [Ty.toD,List.getElem_cons_succ,List.getElem_cons_zero] at g2;cases g2;exact g1
structure Sorted (w:World) (bo br cap:Nat) (xs ys:List Org) (w' :World):Prop where
 os:w'.os=w.os
 tape:w'.tape=w.tape
 output:w'.output=w.output
 size:w.heap.size<=w'.heap.size
 old:∀b,b<w.heap.size->b≠bo->b≠br->w'.heap[b]? =w.heap[b]?
 box:∃ty,w'.heap[bo]? =some (.cells #[.slice (some ⟨br,0,none⟩) xs.length cap] ty (0,0))
 row:OrgRow w' br cap ys
theorem xIm{P:Program}{ρ:Ren}(L:LaysGg.n6 P ρ)(t e:TypeId)(i ie:TypeInfo)(hi:P.info? t=some i)(hd:i.desc= .slice e)(hpk:P.packed t=false)(hie:P.info? e=some ie)(ke:Nat)
 (hke:∀w,(Extern.Rtype.kind e).run P w= .ok ke w) (hnp:ie.hasPointers=false) (hby:ie.bytes=16) (f lf:Nat) (hf:P.funcs.findIdx? (·.name== "internal/reflectlite" ++ ".Swapper$9")=some f)
 {xs ys:List Org} (hl:ys.length=xs.length) (h2:2<=xs.length) (hlen:xs.length<4611686018427387904)
 (hpdq:AbsCalls P (ρ.f 14) [.val (.v true [.clo lf [gi 4],.swp f 0 (typeHandle P e) (gi 4)]),.val (.v false [.int .i64 0]),.val (.v false [.int .i64 xs.length]),.val (.v false [.int .i64 (Lib.bitLen xs.length)]),.gbox [.sl (.lnt 0) .org xs]] ⟨.tup [],[[.sl (.lnt 0) .org ys]],[]⟩)
 {w:World} {bo br cap:Nat} {ty:TypeId} (hbo:w.heap[bo]? =some (.cells #[.slice (some ⟨br,0,none⟩) xs.length cap] ty (0,0))) (hbr:OrgRow w br cap xs) (hne:bo≠br)
 (hbase:∀x∈kE,x.1<w.heap.size/\x.1≠bo/\x.1≠br/\w.heap[x.1]? =some x.2):
 Calls P (ρ.f 6) #[.iface t (.slice (some ⟨br,0,none⟩) xs.length cap),.func (.func lf) #[] #[.pointer (some ⟨bo,0,none⟩)]] w fun en w' =>en= .returned (.tuple #[])/\Sorted w bo br cap xs ys w' :=by
 have hk9:swapperK xs.length ie ke=9:=by
  grind [swapperK]
 have hbol:bo<w.heap.size:=(Zb.1 hbo).1;have hbrl:br<w.heap.size:=by
  obtain⟨_,cs,ty,lo,hi,h,_⟩:=hbr
  grind
 refine Any.sort_Slice_of_pdq L t e i ie hi hd hpk hie ke hke (some ⟨br,0,none⟩) xs.length cap hlen f (by rw [hk9];exact hf) (.func lf) #[] #[.pointer (some ⟨bo,0,none⟩)] w (Sorted w bo br cap xs ys) ?_;generalize hW:sliceWorld P ρ t (some ⟨br,0,none⟩) xs.length cap w=W;have hWs:W.heap.size=w.heap.size+2:=by grind [sliceWorld,nQ]
 have hWo:∀b,b<w.heap.size->W.heap[b]? =w.heap[b]? :=by
  intro b hb;rw [<-hW];unfold sliceWorld;have al:∀(w:World) (o:Obj) (b:Nat),b<w.heap.size->(w.alloc o).heap[b]? =w.heap[b]? :=fun w o b hb=>by
   show(w.heap.push o)[b]? =_
   grind
  grind
 have hWos:W.os=w.os/\W.tape=w.tape/\W.output=w.output:=by rw [<-hW];exact⟨rfl,rfl,rfl⟩
 let E:Env:= { w:=W,hw:=fun b=>if b=br then xs.length*2 else if b=bo then 0 else match w.heap[b]? with |some o=>mN o|none=>0,
               ow:=fun b=>if b=bo then some (.box (gi 4)) else if b=br then some (.arr (.k (2*gi 4+1)) 0 []) else none,bx:=fun _=>bo,hdr:=fun _=> .slice (some ⟨br,0,none⟩) xs.length cap }
 have o1:E.ow bo=some (.box (gi 4)):=Zt rfl;have o2:E.ow br=some (.arr (.k (2*gi 4+1)) 0 []):=by grind
 have o3:∀b,b≠bo->b≠br->E.ow b=none:=fun b h1 h2=>by grind
 have hw2:E.hw br=xs.length*2:=Zt rfl;have hE:EnvOk E:=by
  refine⟨fun b hb=> ?_,fun b b' l h1 h2=> ?_,fun b s h=> ?_⟩
  all_goals grind
 have hB:fH E:=by
  intro x hx
  grind
 have hrow:OrgRow E.w br cap xs:=by
  obtain⟨h1,cs,ty',lo,hi',h3,h4⟩:=hbr;exact⟨h1,cs,ty',lo,hi',(hWo br hbrl).trans h3,h4⟩
 have hsb:sliceBound P e ie ke (some ⟨br,0,none⟩) xs.length cap= #[.slice (some ⟨br,0,none⟩) xs.length cap,typeHandle P e]:=by
  grind [sliceBound]
 rw [hsb]
 have hA:ArgsAt E 0 [.val (.v true [.clo lf [gi 4],.swp f 0 (typeHandle P e) (gi 4)]),.val (.v false [.int .i64 0]),.val (.v false [.int .i64 xs.length]),.val (.v false [.int .i64 (Lib.bitLen xs.length)]),.gbox [.sl (.lnt 0) .org xs]]
  (#[.agg #[.func (.func lf) #[] #[.pointer (some ⟨bo,0,none⟩)],.func (.func f) #[] #[.slice (some ⟨br,0,none⟩) xs.length cap,typeHandle P e]],.int .i64 0,.int .i64 xs.length,.int .i64 (Lib.bitLen xs.length)]:Array Value).toList:=by
  refine⟨⟨_,rfl,⟨rfl,fun _ _=>trivial⟩,⟨⟨rfl,rfl⟩,fun ad l c he h=>rfl⟩,trivial⟩,⟨rfl,trivial⟩,⟨rfl,trivial⟩,⟨rfl,trivial⟩,⟨o1,_,ty,(hWo bo hbol).trans hbo,?_,trivial⟩,trivial⟩;exact OrgRow.rd hrow o2 hw2 0 rfl
 have hdo:=hpdq E _ hE hB hA;have e14:∀args w,(callFunc (ρ.f 14) args).run P w= .ok (.enter (ρ.f 14) args) w:=enters_of L.f14 (by kernel_rfl) rfl;rcases hdo with ⟨v,w',h1,_⟩|⟨_,h1⟩
 ·grind
 refine h1.mono fun en w' hen=> ?_;cases en with
 |returned v=>
  obtain⟨E',rfl,hx⟩:=hen;have hv:v= .tuple #[]:=by
   obtain⟨vs,rfl,hvs⟩:=(hx.res.vr rfl:VR E' aL (.h 0) (.tup []) v);cases vs with
   |mk l=>cases l with
    |nil=>rfl
    |cons x l=>exact hvs.elim
  subst hv;obtain⟨⟨b1,vals,ty',b2,b3⟩,_⟩:=(hx.outs:bS E' (gi 4) bo [.sl (.lnt 0) .org ys]/\True);have hhdr:E'.hdr 0= .slice (some ⟨br,0,none⟩) xs.length cap:=by rw [hx.hdr]
  cases vals with
  |mk l=>
   match l,b3 with
   | [hv],b3=>
     have b4:RdP E'.w (okF E' (.k (2*gi 4+1)) 0 (.lnt 0)) (qF E' (.k (2*gi 4+1)) 0 (.lnt 0)) hv (.sl 2 (ys.map Ty.org.toD)):=b3.1;have b5:hv=E'.hdr 0:=(RdP.top b4).2 rfl;rw [hhdr] at b5;subst b5;refine⟨rfl,hx.os.trans hWos.1,hx.tape.trans hWos.2.1,hx.output.trans hWos.2.2,by have:=hx.size;grind,fun b hb hb1 hb2=> ?_,⟨ty',b2⟩,?_⟩
     ·exact((hx.old b (by grind) (o3 b hb1 hb2)).1).trans (hWo b hb)
     grind [OrgRow.of]
   | [],b3=>exact b3.elim
   |_::_::_,b3=>exact b3.2.elim
 |_=>grind
end Go.Ab
end
section
namespace Go.Ab
open Go.Proofs Go.RowKit
structure OrgT (P:Program) (te ti tm tb ts:TypeId):Prop where
 key:P.underlying te=some (.struct #[{ name:= "Cell",type:=ti,offset:=0,embedded:=false,tag:= "",pkgPath:= "",byteOffset:=0 },{ name:= "Row",type:=ti,offset:=1,embedded:=false,tag:= "",pkgPath:= "",byteOffset:=8 }])
 held:P.stoodInHeld te=false
 int:P.underlying ti=some (.int .i64)
 map:P.underlying tm=some (.map te tb)
 zero:∀w,(zeroValue tb).run P w= .ok (.bool false) w
 slice:P.underlying ts=some (.slice te)
def Bo(o:Org):Value:= .agg #[.int .i64 o.cell,.int .i64 o.row]
section
variable {P:Program} {te ti tm tb ts:TypeId} (T:OrgT P te ti tm tb ts) {w:World}
include T
theorem UU:P.plainKey ti=true:=by simp [Program.plainKey,T.int]
theorem UJ(o:Org):(part ti #[.int .i64 o.cell,.int .i64 o.row] 0).run P w= .ok (.int .i64 o.cell) w:=run_part_plain w (UU T) rfl
theorem UK(o:Org):(part ti #[.int .i64 o.cell,.int .i64 o.row] 1).run P w= .ok (.int .i64 o.row) w:=run_part_plain w (UU T) rfl
theorem xHZ(em:Bool)(n:Nat)(k:IntKind)(x:Int):(Instr.checkKey em (n+1) ti (.int k x)).run P w= .ok () w:=by
 unfold Instr.checkKey;simp [run_underlying T.int]
theorem U3(em:Bool)(n:Nat)(o:Org):(Instr.checkKey em (n+2) te (Bo o)).run P w= .ok () w:=by
 unfold Instr.checkKey Bo;simp [run_underlying T.key,UJ T,UK T,xHZ T,Result.andThen]
theorem U4(a b:Org):(Op.equal te (Bo a) (Bo b)).run P w= .ok (a==b) w:=by
 have hf:P.fieldsOf te= #[{ name:= "Cell",type:=ti,offset:=0,embedded:=false,tag:= "",pkgPath:= "",byteOffset:=0 },{ name:= "Row",type:=ti,offset:=1,embedded:=false,tag:= "",pkgPath:= "",byteOffset:=8 }]:=by unfold Program.fieldsOf;rw [T.key]
 show(Op.equalIn 10000 te (.agg _) (.agg _)).run P w=_;rw [run_equalIn_agg w 9999 te _ _ (by rw [hf];exact T.key) T.held,hf];have e1:=run_equalIn_int (P:=P) w 9998 ti .i64 .i64 a.cell b.cell T.int;have e2:=run_equalIn_int (P:=P) w 9998 ti .i64 .i64 a.row b.row T.int;have h:(a==b)=((a.cell==b.cell)&&(a.row==b.row)):=by
  cases a;cases b
  grind
 rw [h];simp [Op.eqFields,UJ T,UK T,e1,e2,Result.andThen]
 grind
end
def SetMap(w:World)(b:Nat)(ks:List Org):Prop:=
 ∃es clock,w.heap[b]? =some (.map es clock)/\es.toList.map (·.key)=ks.map Bo/\∀e∈es.toList,e.val= .bool true
theorem SetMap.kept{w w' :World}{b:Nat}{ks:List Org}(h:SetMap w b ks)(e:w'.heap[b]? =w.heap[b]?):SetMap w' b ks:=by
 obtain⟨es,c,h1,h2⟩:=h;exact⟨es,c,e.trans h1,h2⟩
section
variable {P:Program} {te ti tm tb ts:TypeId} (T:OrgT P te ti tm tb ts) {w:World}
include T
theorem xDW(o:Org):∀(es:List MapEntry) (ks:List Org) (i:Nat),es.map (·.key)=ks.map Bo->(∀e∈es,e.val= .bool true)->
 ∃r,(Instr.findAsking te (Bo o) es i).run P w= .ok r w/\(ks.contains o=true->∃j,r=some (j,.bool true))/\(ks.contains o=false->r=none):=by
 intro es
 induction es with
 |nil=>
  intro ks i h _;have:ks=[]:=by simp_all
  subst this;exact⟨none,by simp [Instr.findAsking],by simp,fun _=>rfl⟩
 |cons e es ih=>
  intro ks i h hv;cases ks with
  |nil=>grind
  |cons k ks=>
   simp only [ZX,Y9] at h;obtain⟨h1,h2⟩:=h;obtain⟨r,hr,p1,p2⟩:=ih ks (i+1) h2 (fun x hx=>hv x (Zr _ hx));by_cases hk:o=k
   ·subst hk;refine⟨some (i,.bool true),?_,fun _=>⟨i,rfl⟩,by simp⟩;unfold Instr.findAsking;simp [h1,U4 T,Result.andThen,hv e Zp]
   ·have hb:(o==k)=false:=by grind
    refine⟨r,?_,fun hc=>p1 ?_,fun hc=>p2 ?_⟩
    ·unfold Instr.findAsking;simp [h1,U4 T,Result.andThen,hb,hr]
    all_goals grind
theorem RA(o:Org)(es:List MapEntry)(ks:List Org)(h:es.map (·.key)=ks.map Bo)(hv:∀e∈es,e.val= .bool true):
 ∃r,(Instr.findKey te (Bo o) es).run P w= .ok r w/\(ks.contains o=true->∃j,r=some (j,.bool true))/\(ks.contains o=false->r=none):=by
 cases es with
 |nil=>
  have:ks=[]:=by simp_all
  subst this;exact⟨none,by simp [Instr.findKey,run_underlying T.key,Instr.findNow,Result.andThen],by simp,fun _=>rfl⟩
 |cons e es=>
  cases ks with
  |nil=>grind
  |cons k ks=>
   obtain⟨r,hr,p⟩:=xDW T (w:=w) o (e::es) (k::ks) 0 h hv;refine⟨r,?_,p⟩;have:Instr.findNow (.struct #[{ name:= "Cell",type:=ti,offset:=0,embedded:=false,tag:= "",pkgPath:= "",byteOffset:=0 },{ name:= "Row",type:=ti,offset:=1,embedded:=false,tag:= "",pkgPath:= "",byteOffset:=8 }]) (Bo o) (e::es) 0=none:=by
    simp [Instr.findNow,Instr.sameNow]
   simp [Instr.findKey,run_underlying T.key,this,Result.andThen,hr]
theorem xH0{b:Nat}{ks:List Org}(h:SetMap w b ks)(o:Org):(Instr.lookup tm (.map (some b)) (Bo o) false).run P w= .ok (.bool (ks.contains o)) w:=by
 obtain⟨es,c,h1,h2,h3⟩:=h;obtain⟨r,hr,p1,p2⟩:=RA T (w:=w) o es.toList ks h2 h3;unfold Instr.lookup;have hg:(getObj b).run P w= .ok (.map es c) w:=by grind [getObj,Sem.run]
 have hck:(Instr.checkKey es.isEmpty 10000 te (Bo o)).run P w= .ok () w:=U3 T es.isEmpty 9998 o;cases hc:ks.contains o with
 |true=>
  obtain⟨j,rfl⟩:=p1 hc;simp [run_underlying T.map,hg,hck,hr,Result.andThen]
 |false=>
  obtain rfl:=p2 hc;simp [run_underlying T.map,hg,hck,hr,T.zero,Result.andThen]
theorem xH2{b:Nat}{ks:List Org}(h:SetMap w b ks)(o:Org)(hc:ks.contains o=false):
 ∃w',(Instr.mapUpdate tm (.map (some b)) (Bo o) (.bool true)).run P w= .ok () w' /\SetMap w' b (ks++ [o])/\w.grownBy w' (some b)/\w'.heap.size=w.heap.size:=by
 obtain⟨es,c,h1,h2,h3⟩:=h;obtain⟨r,hr,p1,p2⟩:=RA T (w:=w) o es.toList ks h2 h3;obtain rfl:=p2 hc;have hb:b<w.heap.size:=(Zb.1 h1).1;have hg:(getObj b).run P w= .ok (.map es c) w:=by grind [getObj,Sem.run]
 have hck:(Instr.checkKey false 10000 te (Bo o)).run P w= .ok () w:=U3 T false 9998 o;have hs:∀ob,(setObj b ob).run P w= .ok () { w with heap:=w.heap.setIfInBounds b ob }:=by
  grind [setObj,Sem.run]
 refine⟨{ w with heap:=w.heap.setIfInBounds b (.map (es.push { key:=Bo o,val:= .bool true,born:=c }) (c+1)) },?_,?_,⟨rfl,rfl,rfl,by simp,fun k hk hne=> ?_⟩,by simp⟩
 ·unfold Instr.mapUpdate;simp [run_underlying T.map,hg,hck,hr,hs,Result.andThen]
 ·refine⟨_,_,by simp [hb];exact⟨rfl,rfl⟩,?_,?_⟩
  all_goals grind
 grind
end
section
variable {P:Program} {te ti tm tb ts:TypeId} (w:World) {ops:Array Oper} {rest:List Oper} {o:Oper} {a:Act} {Q:Exit->Act->World->Prop}
theorem xBm(T:OrgT P te ti tm tb ts)(hg:o.guard=none)(m x:Operand)(hop:o.op=Op.lookup tm m x false)(b:Nat)(ks:List Org)(hm:a.eval m= .map (some b))(hs:SetMap w b ks)(c:Org)(hx:a.eval x=Bo c)(bv:Bool)(hbv:ks.contains c=bv)
 (hK:wpList P ops Q rest (a.put o.dst (.bool bv)) w):wpList P ops Q (o::rest) a w:=by
 refine wpList_plain hg fun K' hK' => ?_;have hrun:=xH0 T hs c;rw [hbv] at hrun;unfold Oper.wp;simp [execOp,hop,hm,hx,hrun,Result.andThen];exact hK' _ _ hK
theorem xLe(T:OrgT P te ti tm tb ts)(hg:o.guard=none)(m x v:Operand)(hop:o.op=Op.mapUpdate tm m x v)(b:Nat)(ks:List Org)(hm:a.eval m= .map (some b))(hs:SetMap w b ks)(c:Org)(hx:a.eval x=Bo c)(hv:a.eval v= .bool true)
 (hc:ks.contains c=false) (hK:∀w',SetMap w' b (ks++ [c])->w.grownBy w' (some b)->w'.heap.size=w.heap.size->wpList P ops Q rest (a.put o.dst undef) w'):wpList P ops Q (o::rest) a w:=by
 refine wpList_plain hg fun K' hK' => ?_;obtain⟨w',hrun,r1,r2,r3⟩:=xH2 T hs c hc;unfold Oper.wp;simp [execOp,hop,hm,hx,hv,hrun,Result.andThen];exact hK' _ _ (hK w' r1 r2 r3)
end
def BS(os:List Org):List Value:=os.flatMap bV
theorem IP:∀os:List Org,(BS os).length=os.length*2
 | []=>rfl
 |o::os=>by
  show(bV o++BS os).length=_;rw [jA,IP os]
  grind [bV]
theorem xHr(a b:List Org):BS (a++b)=BS a++BS b:=List.flatMap_append
theorem Gf:∀(os:List Org) (m:Nat) (hm:m<os.length) (k:Nat) (hk:k<2),(BS os)[m*2+k]? =some ((bV os[m])[k]'hk)
 | [],m,hm,_,_=>absurd hm (by simp)
 |o::os,0,hm,k,hk=>by
  grind [bV,BS]
 |o::os,m+1,hm,k,hk=>by
  show(bV o++BS os)[(m+1)*2+k]? =_;rw [ZS (by show 2<=_;omega)];have e:(m+1)*2+k - (bV o).length=m*2+k:=by show(m+1)*2+k - 2=_;omega
  rw [e];exact Gf os m (by grind) k hk
theorem xHs(os:List Org):∀u∈BS os,u.oneCell' =true:=by
 intro u hu;obtain⟨o,_,hu⟩:=ZJ.1 hu;simp only [bV,Zh,Z6,or_false] at hu;rcases hu with rfl|rfl <;>rfl
def RowIn(w:World)(v:Value)(os:List Org):Prop:=
 ∃p c,v= .slice p os.length c/\(os=[]\/∃a:Addr,p=some a/\a.block<w.heap.size/\∀j u,(BS os)[j]? =some u->w.cell? (a.add j)=some u)
theorem xHY{P:Program}(w:World)(t ty e:TypeId)(i:TypeInfo)(ht:P.underlying t=some (.slice e))(hi:P.info? e=some i)(b:Option Addr)(n cap c:Nat)(h:n<=cap):
 (Builtin.append_ #[t,t] ty #[.slice b n cap,.slice none 0 c]).run P w= .ok (.slice b n cap) w:=by
 cases b with
 |none=>simp [Builtin.append_,run_underlying ht,sizeOf,typeInfo,hi,Builtin.lenOf,Builtin.firstCells,h,Result.andThen]
 |some ad=>simp [Builtin.append_,run_underlying ht,sizeOf,typeInfo,hi,Builtin.lenOf,Builtin.firstCells,storeCells,h,Result.andThen]
def OwnRow(w:World)(te g cap:Nat)(xs:List Org):Prop:=
 ∃cur,w.heap[g]? =some (.cells cur te (0,0))/\xs.length<=cap/\cap<=maxLen/\cur.size=cap*2/\cur.toList.take (xs.length*2)=BS xs
theorem OwnRow.kept{w w' :World}{te g cap:Nat}{xs:List Org}(h:OwnRow w te g cap xs)(e:w'.heap[g]? =w.heap[g]?):OwnRow w' te g cap xs:=by
 obtain⟨cur,h1,h2⟩:=h;exact⟨cur,e.trans h1,h2⟩
theorem OwnRow.lt{w:World}{te g cap:Nat}{xs:List Org}(h:OwnRow w te g cap xs):g<w.heap.size:=by
 obtain⟨cur,h1,h2⟩:=h
 grind
theorem OwnRow.cell{w:World}{te g cap:Nat}{xs:List Org}(h:OwnRow w te g cap xs){j:Nat}{u:Value}(hj:(BS xs)[j]? =some u):w.cell? ⟨g,j,none⟩=some u:=by
 obtain⟨cur,h1,h2,h3,h4,h5⟩:=h
 grind [World.cell?]
theorem OwnRow.org{w:World}{te g cap:Nat}{xs:List Org}(h:OwnRow w te g cap xs):OrgRow w g cap xs:=by
 have hc:=fun j u=>h.cell (j:=j) (u:=u);obtain⟨cur,h1,h2,h3,h4,h5⟩:=h;refine⟨h2,cur,te,0,0,h1,h4.symm,fun o a b=>by omega,fun m hm k hk=> ?_⟩;have:=hc _ _ (Gf xs m hm k hk)
 grind
theorem xHX{P:Program}{te ti tm tb ts:TypeId}(T:OrgT P te ti tm tb ts)(w:World)(ty:Nat)(i:TypeInfo)(hi:P.info? te=some i){z:Value}(hz:i.zero=some z)(hsize:i.size=2)(hby:i.bytes=16)(hzs:z.cells.size=2)
 {g cap:Nat} {xs:List Org} (hown:OwnRow w te g cap xs) {u:Value} {ys:List Org} (hin:RowIn w u ys) (hlen:xs.length+ys.length<=1000000000000):
 ∃g' cap' w',(Builtin.append_ #[ts,ts] ty #[.slice (some ⟨g,0,none⟩) xs.length cap,u]).run P w= .ok (.slice (some ⟨g',0,none⟩) (xs++ys).length cap') w' /\OwnRow w' te g' cap' (xs++ys)/\w.grownBy w' (some g)/\(g' =g\/g' =w.heap.size):=by
 obtain⟨p,c,rfl,hp⟩:=hin
 have hown0:w.ownsRow 0 te 2 (.slice (some ⟨g,0,none⟩) xs.length cap) xs.length (BS xs):=by
  obtain⟨cur,h1,h2,h3,h4,h5⟩:=hown;exact⟨IP xs,.inr ⟨g,cap,cur,rfl,Zg _,h1,h2,h3,h4,h5⟩⟩
 have main:∀ad:Addr,(∀j u,(BS ys)[j]? =some u->w.cell? (ad.add j)=some u)->∃g' cap' w',(Builtin.append_ #[ts,ts] ty #[.slice (some ⟨g,0,none⟩) xs.length cap,.slice (some ad) ys.length c]).run P w= .ok (.slice (some ⟨g',0,none⟩) (xs++ys).length cap') w' /\
  OwnRow w' te g' cap' (xs++ys)/\w.grownBy w' (some g)/\(g' =g\/g' =w.heap.size):=by
  intro ad had;obtain⟨v',w',hr,h2,h3,h4,h5⟩:=run_append_own_at (P:=P) w 0 ts ty te i z 2 16 T.slice hi hz hsize hby hzs (by decide) _ xs.length (BS xs) hown0 ad ys.length c (BS ys) (IP ys) had (xHs ys) (by grind [maxLen]) (by omega) (Zg _);rcases h2.2 with ⟨rfl,_⟩|⟨g',cap',cur,rfl,_,q1,q2,q3,q4,q5⟩
  ·grind
  ·refine⟨g',cap',w',by grind,⟨cur,q1,by grind,q3,q4,by grind [xHr]⟩,h3,?_⟩
   grind [Value.ownBlock]
 rcases hp with hnil|⟨ad,rfl,_,had⟩
 ·subst hnil;cases p with
  |some ad=>exact main ad (fun j u h=>by grind [BS])
  |none=>
   have hn:xs.length<=cap:=by obtain⟨cur,h1,h2,_⟩:=hown;grind
   refine⟨g,cap,w,?_,by grind,⟨rfl,rfl,rfl,Zn _,fun _ _ _=>rfl⟩,.inl rfl⟩;rw [Z8];exact xHY w ts ty te i T.slice hi (some ⟨g,0,none⟩) xs.length cap c hn
 simp_all
theorem Pt{P:Program}{te ti tm tb ts:TypeId}(w:World){ops:Array Oper}{rest:List Oper}{o:Oper}{a:Act}{Q:Exit->Act->World->Prop}(T:OrgT P te ti tm tb ts)(hg:o.guard=none)(s x:Operand)
 (hop:o.op= .call { callee:= .builtin .append,args:= #[s,x],argTypes:= #[ts,ts] }) (i:TypeInfo) (hi:P.info? te=some i) {z:Value} (hz:i.zero=some z) (hsize:i.size=2) (hby:i.bytes=16) (hzs:z.cells.size=2)
 (g cap:Nat) (xs:List Org) (hs:a.eval s= .slice (some ⟨g,0,none⟩) xs.length cap) (hown:OwnRow w te g cap xs) (u:Value) (hx:a.eval x=u) (ys:List Org) (hin:RowIn w u ys) (hlen:xs.length+ys.length<=1000000000000)
 (hK:∀g' cap' w',OwnRow w' te g' cap' (xs++ys)->w.grownBy w' (some g)->(g' =g\/g' =w.heap.size)->wpList P ops Q rest (a.put o.dst (.slice (some ⟨g',0,none⟩) (xs++ys).length cap')) w'):
 wpList P ops Q (o::rest) a w:=by
 refine wpList_plain hg fun K' hK' => ?_;obtain⟨g',cap',w',hr,h2,h3,h4⟩:=xHX (P:=P) T w o.type i hi hz hsize hby hzs hown hin hlen;unfold Oper.wp execOp;simp only [hop,resolve,invoke,builtin,Sem.run_bind,Sem.run_pure,Result.andThen_ok,List.map_toArray,ZX,ZB,hs,hx,hr];exact hK' _ _ (hK g' cap' w' h2 h3 h4)
theorem RowIn.kept{w w' :World}{v:Value}{os:List Org}(h:RowIn w v os)(hs:w.heap.size<=w'.heap.size)(ho:∀b,b<w.heap.size->w'.heap[b]? =w.heap[b]?):RowIn w' v os:=by
 obtain⟨p,c,rfl,h⟩:=h;refine⟨p,c,rfl,h.imp id ?_⟩
 grind [World.cell?]
theorem BB{w:World}{o:Obj}{b:Nat}(hb:b<w.heap.size):(w.alloc o).heap[b]? =w.heap[b]? :=Below.heap_alloc w o b hb
theorem BX(w:World)(o:Obj):(w.alloc o).heap.size=w.heap.size+1:=Yl _
theorem RowIn.below{w w' :World}{v:Value}{os:List Org}(h:RowIn w v os)(hb:Below w.heap.size w w'):RowIn w' v os:=h.kept hb.size hb.block
theorem xH9(w:World)(o1 o2 o3:Obj)(te:TypeId):OwnRow ((((w.alloc o1).alloc o2).alloc o3).alloc (.cells #[] te)) te (w.heap.size+1+1+1) 0 []:=by
 refine⟨#[],?_,Zn _,by decide,rfl,rfl⟩;have e:w.heap.size+1+1+1=(((w.alloc o1).alloc o2).alloc o3).heap.size:=by simp_all
 rw [e];show(Array.push _ _)[_]? =_
 grind
theorem Nb(w:World)(o1 o2 o3 o4:Obj):Below w.heap.size w ((((w.alloc o1).alloc o2).alloc o3).alloc o4):=
 ((((Below.refl w.heap.size w).alloc (Zn _) o1).alloc (by simp_all) o2).alloc (by grind [BX]) o3).alloc (by grind [BX]) o4
theorem Qk(os:List Org)(k:Nat)(hk:k<os.length):ded (os.take (k+1))=tY (ded (os.take k)) os[k]:=by
 grind [ded,List.take_succ_eq_append_getElem]
theorem Nj(os:List Org):(ded os).length<=os.length:=by
 unfold ded;have:∀(os acc:List Org),(os.foldl tY acc).length<=acc.length+os.length:=by
  intro os
  induction os with
  |nil=>grind
  |cons o os ih=>
   grind [tY]
 grind
structure URel (w:World) (te ts B S ga ca:Nat) (all:List Org) (k g cap:Nat) (wr:World):Prop where
 set:SetMap wr B (ded (all.take k))
 box:wr.heap[B+1+1]? =some (.cells #[.slice (some ⟨g,0,none⟩) (ded (all.take k)).length cap] ts (0,0))
 row:OwnRow wr te g cap (ded (all.take k))
 all:OwnRow wr te ga ca all
 below:Below B w wr
 size:S<=wr.heap.size
 hg:g=B+1\/S<=g
 hga:B+3<=ga/\ga<S
theorem URel.cell{w wr:World}{te ts B S ga ca k g cap:Nat}{all:List Org}(h:URel w te ts B S ga ca all k g cap wr):wr.cell? ⟨B+1+1,0,none⟩=some (.slice (some ⟨g,0,none⟩) (ded (all.take k)).length cap):=by
 simp [World.cell?,h.box]
theorem URel.old{w wr:World}{te ts B S ga ca k g cap:Nat}{all:List Org}(h:URel w te ts B S ga ca all k g cap wr)(hk:k<all.length)(hc:(ded (all.take k)).contains all[k]=true)(o:Obj):URel w te ts B S ga ca all (k+1) g cap (wr.alloc o):=by
 have hsz:=h.size;have hal:∀b,b<wr.heap.size->(wr.alloc o).heap[b]? =wr.heap[b]? :=fun b hb=>BB (by omega);have e:ded (all.take (k+1))=ded (all.take k):=by grind [Qk,tY]
 have h1:=h.hga;refine⟨by rw [e];exact h.set.kept (hal _ (by omega)),by rw [e,hal _ (by omega)];exact h.box,by rw [e];exact h.row.kept (hal _ h.row.lt),h.all.kept (hal _ h.all.lt),h.below.alloc (by omega) _,by grind [BX],h.hg,h1⟩
theorem xIa{w:World}{b:Nat}{v0 v:Value}{ty:TypeId}(h:w.heap[b]? =some (.cells #[v0] ty (0,0))):(w.setCell ⟨b,0,none⟩ v).heap[b]? =some (.cells #[v] ty (0,0))/\∀k,k≠b->(w.setCell ⟨b,0,none⟩ v).heap[k]? =w.heap[k]? :=by
 grind [World.setCell]
theorem URel.new{w wr w2 w4:World}{te ts B S ga ca k g cap g' cap' :Nat}{all:List Org}(h:URel w te ts B S ga ca all k g cap wr)(hk:k<all.length)(hc:(ded (all.take k)).contains all[k]=false){o1 o3:Obj}
 (s2:SetMap w2 B (ded (all.take k)++ [all[k]])) (g2:(wr.alloc o1).grownBy w2 (some B)) (z2:w2.heap.size=(wr.alloc o1).heap.size)
 (r4:OwnRow w4 te g' cap' (ded (all.take k)++ [all[k]])) (g4:(w2.alloc o3).grownBy w4 (some g)) (hg' :g' =g\/g' =(w2.alloc o3).heap.size):
 URel w te ts B S ga ca all (k+1) g' cap' (w4.setCell ⟨B+1+1,0,none⟩ (.slice (some ⟨g',0,none⟩) (ded (all.take k)++ [all[k]]).length cap')):=by
 have hsz:=h.size;have e:ded (all.take (k+1))=ded (all.take k)++ [all[k]]:=by grind [Qk,tY]
 have h1:=h.hga;have h2:=h.hg;have hgl:=h.row.lt;have zs1:(wr.alloc o1).heap.size=wr.heap.size+1:=BX _ _;have zs3:(w2.alloc o3).heap.size=w2.heap.size+1:=BX _ _;have z4:=g4.size;have q1:∀b,b<wr.heap.size->b≠B->w2.heap[b]? =wr.heap[b]? :=fun b hb hne=>(g2.block b (by omega) (by grind)).trans (BB (by omega));have q4:∀b,b<wr.heap.size->b≠B->b≠g->w4.heap[b]? =wr.heap[b]? :=fun b hb hne hne2=>((g4.block b (by omega) (by grind)).trans (BB (by omega))).trans (q1 b hb hne);have hbx:w4.heap[B+1+1]? =some (.cells #[.slice (some ⟨g,0,none⟩) (ded (all.take k)).length cap] ts (0,0)):=(q4 _ (by omega) (by omega) (by omega)).trans h.box;obtain⟨b1,b2⟩:=xIa (v:= .slice (some ⟨g',0,none⟩) (ded (all.take k)++ [all[k]]).length cap') hbx;refine⟨?_,?_,?_,?_,?_,?_,?_,h1⟩
 ·rw [e];exact s2.kept ((b2 _ (by omega)).trans ((g4.block B (by omega) (by grind)).trans (BB (by omega))))
 ·grind
 ·rw [e];exact r4.kept (b2 _ (by omega))
 ·exact h.all.kept ((b2 _ (by omega)).trans (q4 _ h.all.lt (by omega) (by omega)))
 ·refine Below.setCell ?_ (by grind) _;refine Below.grown ?_ g4 (by omega) (fun k hk=>by grind);refine Below.alloc ?_ (by omega) _;refine Below.grown ?_ g2 (by omega) (fun k hk=>by grind);exact h.below.alloc (by omega) _
 all_goals grind [World.setCell]
theorem URel.start{w w1 w2:World}{te ts g1 g2 c2:Nat}{xs ys:List Org}(r2:OwnRow w2 te g2 c2 ([]++xs++ys))
 (gr1:((((w.alloc (.map #[] 0)).alloc (.cells #[] te)).alloc (.cells #[.slice (some { block:=w.heap.size+1,off:=0 }) 0 0] ts)).alloc (.cells #[] te)).grownBy w1 (some (w.heap.size+1+1+1)))
 (e1:g1=w.heap.size+1+1+1\/g1=((((w.alloc (.map #[] 0)).alloc (.cells #[] te)).alloc (.cells #[.slice (some { block:=w.heap.size+1,off:=0 }) 0 0] ts)).alloc (.cells #[] te)).heap.size)
 (gr2:w1.grownBy w2 (some g1)) (e2:g2=g1\/g2=w1.heap.size):URel w te ts w.heap.size w2.heap.size g2 c2 (xs++ys) 0 (w.heap.size+1) 0 w2:=by
 generalize hA:((w.alloc (.map #[] 0)).alloc (.cells #[] te)).alloc (.cells #[.slice (some { block:=w.heap.size+1,off:=0 }) 0 0] ts)=A at gr1 e1;have za:A.heap.size=w.heap.size+3:=by grind [BX]
 have z4:(A.alloc (.cells #[] te)).heap.size=w.heap.size+4:=by grind [BX]
 have s1:=gr1.size;have s2:=gr2.size;have a0:A.heap[w.heap.size]? =some (.map #[] 0):=by
  rw [<-hA,BB (by grind [BX]),BB (by simp_all)];show(Array.push _ _)[_]? =_
  grind
 have a1:A.heap[w.heap.size+1]? =some (.cells #[] te):=by
  rw [<-hA,BB (by simp_all)];show(Array.push _ _)[_]? =_
  grind [BX]
 have a2:A.heap[w.heap.size+1+1]? =some (.cells #[.slice (some { block:=w.heap.size+1,off:=0 }) 0 0] ts):=by
  rw [<-hA];show(Array.push _ _)[_]? =_
  grind [BX]
 have keep:∀b,b<w.heap.size+3->w2.heap[b]? =A.heap[b]? :=fun b hb=>
  (gr2.block b (by omega) (by grind)).trans ((gr1.block b (by omega) (by grind)).trans (BB (by omega)))
 have hd:ded ((xs++ys).take 0)=[]:=by simp [ded]
 refine⟨?_,?_,?_,by grind,?_,Zn _,.inl rfl,by omega,?_⟩
 ·rw [hd];exact⟨#[],0,(keep _ (by omega)).trans a0,rfl,by simp⟩
 ·grind
 ·rw [hd];exact⟨#[],(keep _ (by omega)).trans a1,Zn _,by decide,rfl,rfl⟩
 ·refine Below.grown (Below.grown ?_ gr1 (by omega) (fun k hk=>by grind)) gr2 (by omega) (fun k hk=>by grind)
  grind [Nb]
 ·exact r2.lt
theorem URel.mid{w wr w3:World}{te ts B S ga ca k g cap:Nat}{all:List Org}(h:URel w te ts B S ga ca all k g cap wr){a b:Value}(g3:(wr.alloc (.cells #[a,b] te)).grownBy w3 (some B))(z3:w3.heap.size=(wr.alloc (.cells #[a,b] te)).heap.size):
 w3.cell? ⟨B+1+1,0,none⟩=some (.slice (some ⟨g,0,none⟩) (ded (all.take k)).length cap)/\w3.cell? ⟨wr.heap.size,0,none⟩=some a/\w3.cell? ⟨wr.heap.size,1,none⟩=some b/\∀o,OwnRow (w3.alloc o) te g cap (ded (all.take k)):=by
 have hsz:=h.size;have h1:=h.hga;have h2:=h.hg;have hgl:=h.row.lt;have zs1:=BX wr (.cells #[a,b] te);have q1:∀b,b<wr.heap.size->b≠B->w3.heap[b]? =wr.heap[b]? :=fun b hb hne=>(g3.block b (by omega) (by grind)).trans (BB (by omega));have qn:w3.heap[wr.heap.size]? =some (.cells #[a,b] te):=by
  rw [g3.block _ (by omega) (by grind)];show(Array.push _ _)[_]? =_
  grind
 refine⟨?_,by grind [World.cell?],by grind [World.cell?],fun o=> ?_⟩
 ·simp only [World.cell?,q1 (B+1+1) (by omega) (by omega),h.box]
  rfl
 ·exact h.row.kept ((BB (by omega)).trans (q1 g hgl (by omega)))
theorem xHS(w:World)(te:Nat)(c:Org):RowIn (w.alloc (.cells #[.int .i64 c.cell,.int .i64 c.row] te)) (.slice (some ⟨w.heap.size,0,none⟩) 1 1) [c]:=by
 refine⟨_,1,rfl,.inr ⟨_,rfl,by simp_all,fun j u hj=> ?_⟩⟩;have hq:∀i,(w.alloc (.cells #[.int .i64 c.cell,.int .i64 c.row] te)).cell? ⟨w.heap.size,i,none⟩=(#[.int .i64 c.cell,.int .i64 c.row]:Array Value)[i]? :=fun i=>by
  simp_all
 grind [BS,bV,Addr.add]
theorem URel.mid4{w wr w3 w4:World}{te ts B S ga ca k g cap:Nat}{all:List Org}(h:URel w te ts B S ga ca all k g cap wr){o1 o3:Obj}(g3:(wr.alloc o1).grownBy w3 (some B))(z3:w3.heap.size=(wr.alloc o1).heap.size)
 (g4:(w3.alloc o3).grownBy w4 (some g)):
 w4.cell? ⟨B+1+1,0,none⟩=some (.slice (some ⟨g,0,none⟩) (ded (all.take k)).length cap)/\w4.frozen? ⟨B+1+1,0,none⟩=false:=by
 have hsz:=h.size;have h1:=h.hga;have h2:=h.hg;have hgl:=h.row.lt;have zs1:=BX wr o1;have zs3:=BX w3 o3
 have q:w4.heap[B+1+1]? =wr.heap[B+1+1]? :=
  (g4.block _ (by omega) (by grind)).trans ((BB (by omega)).trans ((g3.block _ (by omega) (by grind)).trans (BB (by omega))))
 constructor
 ·simp only [World.cell?,q,h.box]
  rfl
 ·simp [World.frozen?,q,h.box]
end Go.Ab
end
section
namespace Go.Ab
open Go.Lib Go.Extern Go.Proofs Go.Shelf Go.RowKit
variable [Inhabited Lb]
theorem xIl{P:Program}{ρ:Ren}(L:LaysGg.n6 P ρ)(t e:TypeId)(i ie:TypeInfo)(hi:P.info? t=some i)(hd:i.desc= .slice e)(hpk:P.packed t=false)(hie:P.info? e=some ie)(ke:Nat)
 (hke:∀w,(Extern.Rtype.kind e).run P w= .ok ke w) (hnp:ie.hasPointers=false) (hby:ie.bytes=16) (f1 f2 f lf:Nat) (hf1:P.funcs.findIdx? (·.name== "internal/reflectlite" ++ ".Swapper$1")=some f1)
 (hf2:P.funcs.findIdx? (·.name== "internal/reflectlite" ++ ".Swapper$2")=some f2) (hf:P.funcs.findIdx? (·.name== "internal/reflectlite" ++ ".Swapper$9")=some f)
 (hpdq:∀xs:List Org,2<=xs.length->xs.length<=1000000000000->AbsCalls P (ρ.f 14) [.val (.v true [.clo lf [gi 4],.swp f 0 (typeHandle P e) (gi 4)]),.val (.v false [.int .i64 0]),.val (.v false [.int .i64 xs.length]),.val (.v false [.int .i64 (Lib.bitLen xs.length)]),.gbox [.sl (.lnt 0) .org xs]]
   ⟨.tup [],[[.sl (.lnt 0) .org (xs.mergeSort fun x y=> !olt y x)]],[]⟩)
 {w:World} {bo br cap:Nat} {ty:TypeId} {xs:List Org} (hlen:xs.length<=1000000000000) (hbo:w.heap[bo]? =some (.cells #[.slice (some ⟨br,0,none⟩) xs.length cap] ty (0,0))) (hbr:OrgRow w br cap xs) (hne:bo≠br)
 (hbase:∀x∈kE,x.1<w.heap.size/\x.1≠bo/\x.1≠br/\w.heap[x.1]? =some x.2):
 Calls P (ρ.f 6) #[.iface t (.slice (some ⟨br,0,none⟩) xs.length cap),.func (.func lf) #[] #[.pointer (some ⟨bo,0,none⟩)]] w fun en w' =>en= .returned (.tuple #[])/\Sorted w bo br cap xs (xs.mergeSort fun x y=> !olt y x) w' :=by
 by_cases h2:2<=xs.length
 ·exact xIm L t e i ie hi hd hpk hie ke hke hnp hby f lf hf (by simp) h2 (by omega) (hpdq xs h2 hlen) hbo hbr hne hbase
 ·have hn:xs.length<=1:=by omega
  have hms:(xs.mergeSort fun x y=> !olt y x)=xs:=by
   match xs,hn with
   | [],_=>simp
   | [a],_=>simp
  rw [hms];have hfi:∃f0,P.funcs.findIdx? (·.name== "internal/reflectlite" ++ ".Swapper$" ++toString (swapperK xs.length ie ke))=some f0:=by
   match h:xs.length,hn with
   |0,_=>exact⟨f1,by rw [show swapperK 0 ie ke=1 from rfl];exact hf1⟩
   |1,_=>exact⟨f2,by rw [show swapperK 1 ie ke=2 from rfl];exact hf2⟩
  obtain⟨f0,hf0⟩:=hfi;refine(Any.sort_Slice_tiny L t e i ie hi hd hpk hie ke hke (some ⟨br,0,none⟩) xs.length cap hn f0 hf0 (.func lf) #[] #[.pointer (some ⟨bo,0,none⟩)] w).mono ?_;rintro en w' ⟨rfl,os,rfl⟩;have hbol:bo<w.heap.size:=(Zb.1 hbo).1;have hbrl:br<w.heap.size:=by
   obtain⟨_,cs,ty,lo,hi,h,_⟩:=hbr
   grind
  refine⟨rfl,rfl,rfl,rfl,by simp_all,fun b hb _ _=>Sort.heap_grow_old _ _ hb,⟨ty,(Sort.heap_grow_old _ _ hbol).trans hbo⟩,?_⟩;obtain⟨h1,cs,ty',lo,hi',h3,h4⟩:=hbr;exact⟨h1,cs,ty',lo,hi',(Sort.heap_grow_old _ _ hbrl).trans h3,h4⟩
theorem Qg{w:World}{ok:List (Nat×Nat)->Nat->Nat->Prop}{q:List (Nat×Nat)->Value->Nat->Prop}{x:Org}{y:Value}:∀ {k:Nat} {hk:k<(Ty.org.toD x).length},RdP w ok q y ((Ty.org.toD x)[k])->y=(bV x)[k]'hk
 |0,_,h=>by simp only [Ty.toD,List.getElem_cons_zero] at h;cases h;rfl
 |1,_,h=>by simp only [Ty.toD,List.getElem_cons_succ,List.getElem_cons_zero] at h;cases h;rfl
 |k+2,hk,_=>absurd hk (by show ¬k+2<2;omega)
theorem U0{E:Env}{pl:Pl}{c:Nat}{v:Value}{os:List Org}(h:RdP E.w (okF E pl c .ro) (qF E pl c .ro) v (.sl 2 (os.map Ty.org.toD))):RowIn E.w v os:=by
 by_cases hx:os=[]
 ·subst hx;obtain⟨ad,cap,rfl,_⟩:=RdP.shape h;exact⟨ad,cap,rfl,.inl rfl⟩
 ·obtain⟨b,off,cap,rfl,hcap,hrl,hq,u,hcl,hk⟩:=RdP.cells h (by simpa using hx);refine⟨some ⟨b,off,none⟩,cap,by grind,.inr ⟨_,rfl,?_,fun j x hj=> ?_⟩⟩
  ·have hpos:0<(os.map Ty.org.toD).length:=by
    grind
   have h0:=(hcl 0 0 hpos (by decide)).1
   grind [World.cell?]
  ·have hj2:j<(BS os).length:=(Zs.1 hj).1;rw [IP] at hj2;have e:j=j / 2*2+j % 2:=by omega
   grind [Gf,Addr.add,Qg]
theorem xGT{P:Program}{f:FuncId}(hf:∀args w,(callFunc f args).run P w= .ok (.enter f args) w)
 (hc:∀(xs ys:List Org) (u v:Value) (w:World),RowIn w u xs->RowIn w v ys->xs.length+ys.length<=1000000000000->(∀x∈kE,x.1<w.heap.size/\w.heap[x.1]? =some x.2)->
   Calls P f #[u,v] w fun e w' =>∃br cap,e= .returned (.slice (some ⟨br,0,none⟩) (rM xs ys).length cap)/\Below w.heap.size w w' /\w.heap.size<=br/\OrgRow w' br cap (rM xs ys))
 {xs ys zs:List Org} (h:AH xs ys=some zs):AbsCalls P f [.val (.v false [.sl .ro .org xs]),.val (.v false [.sl .ro .org ys])] ⟨.v false [.sl .own .org zs],[],[]⟩:=by
 unfold AH at h;split at h
 case isFalse=>cases h
 rename_i hlen;cases h;refine AbsCalls.of_enter hf fun E args hE hB hA=> ?_
 match args,hA with
 |⟨[v1,v2]⟩,hA=>
  obtain⟨⟨hv1,_⟩,⟨hv2,_⟩,_⟩:=hA;refine(hc xs ys v1 v2 E.w (U0 hv1) (U0 hv2) hlen fun x hx=>⟨(hB x hx).1,(hB x hx).2.2.1⟩).mono ?_;rintro e w' ⟨br,cap,rfl,hb,hbr,hrow⟩;generalize rM xs ys=zs at hrow;have hbl:br<w'.heap.size:=by
   obtain⟨_,cs,ty,lo,hi,h,_⟩:=hrow
   grind
  have h0:=hE.new br hbr
  let E' :Env:= { w:=w',hw:=fun b=>if b=br then zs.length*2 else E.hw b,ow:=fun b=>if b=br then some (.arr (.h 0) 0 []) else(E.ow b).bind (fun l=>if l= .arr (.h 0) 0 [] then none else some l),bx:=E.bx,hdr:=fun _=> .slice (some ⟨br,0,none⟩) zs.length cap }
  have hrd:=OrgRow.rd (E:=E') (pl:= .h 0) (c:=0) hrow (Zt rfl) (Zt rfl) 0 rfl;refine⟨_,{ E' with hdr:=E.hdr },rfl,rfl,?_⟩;refine { os:=hb.os,tape:=hb.tape,output:=hb.output,size:=hb.size,hdr:=rfl,old:=fun b hlt h1=> ?_,env:=⟨fun b hbb=> ?_,fun b b' l g1 g2=> ?_,fun b s h=> ?_⟩,res:= ?_,outs:=trivial,lents:=trivial,bx:=fun _ _=>rfl }
  ·have e:b≠br:=by omega
   exact⟨hb.block b hlt,by grind,by grind⟩
  ·have hbb:w'.heap.size<=b:=hbb;have e:b≠br:=by omega
   have:=hE.new b (by grind)
   grind
  ·simp only [E'] at g1 g2;split at g1 <;>split at g2
   ·grind
   ·grind [Option.bind_eq_some_iff]
   ·grind [Option.bind_eq_some_iff]
   ·simp only [Zq] at g1 g2;obtain⟨l1,a1,c1⟩:=g1;obtain⟨l2,a2,c2⟩:=g2;split at c1
    ·grind
    ·split at c2
     ·grind
     ·cases c1;cases c2;exact hE.inj _ _ _ a1 a2
  ·simp only [E'] at h ⊢;split at h
   ·cases h
   ·rename_i hne;rw [Za hne];rw [Zq] at h;obtain⟨l,a1,c1⟩:=h;split at c1
    ·grind
    ·cases c1;exact hE.boxhw b s a1
  ·refine ResAt.of ?_ rfl;refine⟨?_,trivial⟩;exact RdP.mono hrd (fun p b o ho=>⟨rfl,ho⟩) (fun p v sz ht=>ht.1)
 |⟨[]⟩,hA=>exact hA.elim
 |⟨[_]⟩,hA=>exact hA.2.elim
 |⟨_::_::_::_⟩,hA=>exact hA.2.2.elim
end Go.Ab
end
section
namespace Go.Ab
end Go.Ab
namespace Go.Ab
variable [Inhabited Lb]
open Go.Proofs Go.Shelf Go.RowKit Go.Lib
variable {P:Program} {ρ:Ren}
theorem xGd(s:List UInt8)(c:UInt8):Lib.index s [c]=Lib.indexByte s c:=by
 induction s with
 |nil=>rfl
 |cons b l ih=>
  grind [Lib.index,Lib.indexByte]
set_option maxHeartbeats 1000000 in
theorem xKC(L:Lays.n146 P ρ)(hi9:(P.info? (ρ.t 9)).map (fun i=>(i.zero,i.size,i.bytes))=some (some (.string ByteArray.empty),1,16))(s:ByteArray)(c:UInt8)(w:World)(hs:s.size<4294967281):
 Calls P (ρ.f 146) #[.string s,.string ⟨#[c]⟩] w fun e w' =>
  e= .returned (.slice (some ⟨w.heap.size,0,none⟩) (Lib.countB s ⟨#[c]⟩+1) (Lib.countB s ⟨#[c]⟩+1))/\w' =w.alloc (.cells ((Lib.splitB ⟨#[c]⟩ 0 (Lib.countB s ⟨#[c]⟩) s).map Value.string).toArray (ρ.t 9)):=by
 have h1:1<=(⟨#[c]⟩:ByteArray).size:=Zn 1;have hle:=Lib.countB_le ⟨#[c]⟩ h1 s.size s (Zn _);have hlen:=Lib.splitB_all ⟨#[c]⟩ h1 0 _ s rfl;have hI:∀(x:ByteArray) (cc:Array Value),x.size<=s.size->Calls P (ρ.f 143) #[.string x,.string ⟨#[c]⟩] (w.alloc (.cells cc (ρ.t 9))) fun e w' =>e= .returned (.int .i64 (Lib.indexB x ⟨#[c]⟩))/\w' =w.alloc (.cells cc (ρ.t 9)):=by
  intro x cc _;refine(Any.strings_Index_one { L with } x c _).mono fun e w' ⟨he,hw⟩=>⟨?_,hw⟩
  grind [xGd]
 have hC:Calls P (ρ.f 138) #[.string s,.string ⟨#[c]⟩] w fun e w' =>e= .returned (.int .i64 (Lib.countB s ⟨#[c]⟩))/\w' =w:=by
  refine(Any.strings_Count_one { L with } s c w).mono fun e w' ⟨he,hw⟩=>⟨?_,hw⟩;rw [he];show _=Ending.returned (Value.int .i64 ((Lib.count s.data.toList [c]:Nat):Int));rw [Lib.count_one]
  rfl
 have cc:=Any.strings_genSplit_core { L with } hi9 s ⟨#[c]⟩ 0 (-1) (Lib.countB s ⟨#[c]⟩+1) w hs h1 (Zg _) hI hC (by decide) (by decide) (by grind);rw [Nat.add_sub_cancel,hlen] at cc;have e2:Lib.cellsOf (Lib.splitB ⟨#[c]⟩ 0 (Lib.countB s ⟨#[c]⟩) s) (Lib.countB s ⟨#[c]⟩+1)=((Lib.splitB ⟨#[c]⟩ 0 (Lib.countB s ⟨#[c]⟩) s).map Value.string).toArray:=by grind [Lib.cellsOf_full]
 rw [e2] at cc;have t3:=L.t3;have t9:=L.t9;have t31:=L.t31;have a3:=L.a3;have a9:=L.a9;have a31:=L.a31;have z3:=L.z3;have v3:=L.v3;have z9:=L.z9;have v9:=L.v9;have z31:=L.z31;have v31:=L.v31;have e221:∀args w,(callFunc (ρ.f 221) args).run P w= .ok (.enter (ρ.f 221) args) w:=enters_of L.f221 (by kernel_rfl) rfl
 go_enter L.f146,Body.n146_ntmps ρ
 go_wp2_with (go_at_fn (ρ.f 221);refine cc.mono ?_;rintro e w' ⟨rfl,hw⟩;rw [hw])
 go_ret
 simp_all
theorem xDQ(L:Lays.n146 P ρ):∀args w,(callFunc (ρ.f 146) args).run P w= .ok (.enter (ρ.f 146) args) w:=enters_of L.f146 (by kernel_rfl) rfl
end Go.Ab
end
section
namespace Go.Proofs
open Go.Shelf
def Tryz.lays125_ren:Go.Shelf.Ren:=⟨fun |125=>283|128=>298|129=>299|n=>n,fun |46=>171|3=>3|51=>257|53=>259|4=>4|5=>5|9=>9|n=>n,fun |n=>n⟩
theorem Tryz.lays125:Go.Proofs.Lays.n125 Tryz.prog Tryz.lays125_ren:= {
 mixed:=by kernel_rfl
 f125:=Tryz.func283.trans (Zl some (by kernel_rfl))
 f128:=Tryz.func298.trans (Zl some (by kernel_rfl))
 f129:=Tryz.func299.trans (Zl some (by kernel_rfl))
 t3:=Tryz.underlying3
 a3:=Tryz.isAgg3
 z3:=Tryz.sizeOf3
 v3:=Tryz.zeroValue3
 t4:=Tryz.underlying4
 a4:=Tryz.isAgg4
 z4:=Tryz.sizeOf4
 v4:=Tryz.zeroValue4
 t5:=Tryz.underlying5
 a5:=Tryz.isAgg5
 z5:=Tryz.sizeOf5
 v5:=Tryz.zeroValue5
 t9:=Tryz.underlying9
 a9:=Tryz.isAgg9
 z9:=Tryz.sizeOf9
 v9:=Tryz.zeroValue9
 t46:=Tryz.underlying171
 a46:=Tryz.isAgg171
 z46:=Tryz.sizeOf171
 v46:=Tryz.zeroValue171
 t51:=Tryz.underlying257
 a51:=Tryz.isAgg257
 z51:=Tryz.sizeOf257
 v51:=Tryz.zeroValue257
 t53:=Tryz.underlying259
 a53:=Tryz.isAgg259
 z53:=Tryz.sizeOf259
 v53:=Tryz.zeroValue259 }
def Tryz.lays191_ren:Go.Shelf.Ren:=⟨fun |191=>240|189=>271|125=>283|257=>285|128=>298|129=>299|294=>308|295=>309|296=>310|297=>311|298=>312|299=>313|216=>314|300=>315|301=>316|328=>326|329=>327|330=>328|331=>329|332=>330|215=>331|343=>338|n=>n,fun |28=>132|0=>0|3=>3|46=>171|51=>257|53=>259|4=>4|183=>269|182=>268|131=>215|5=>5|9=>9|218=>283|222=>281|228=>289|229=>287|n=>n,fun |n=>n⟩
theorem Tryz.lays191:Go.Proofs.Lays.n191 Tryz.prog Tryz.lays191_ren:= {
 mixed:=by kernel_rfl
 f125:=Tryz.func283.trans (Zl some (by kernel_rfl))
 f128:=Tryz.func298.trans (Zl some (by kernel_rfl))
 f129:=Tryz.func299.trans (Zl some (by kernel_rfl))
 f189:=Tryz.func271.trans (Zl some (by kernel_rfl))
 f191:=Tryz.func240.trans (Zl some (by kernel_rfl))
 f215:=Tryz.func331.trans (Zl some (by kernel_rfl))
 f216:=Tryz.func314.trans (Zl some (by kernel_rfl))
 f257:=Tryz.func285.trans (Zl some (by kernel_rfl))
 f294:=Tryz.func308.trans (Zl some (by kernel_rfl))
 f295:=Tryz.func309.trans (Zl some (by kernel_rfl))
 f296:=Tryz.func310.trans (Zl some (by kernel_rfl))
 f297:=Tryz.func311.trans (Zl some (by kernel_rfl))
 f298:=Tryz.func312.trans (Zl some (by kernel_rfl))
 f299:=Tryz.func313.trans (Zl some (by kernel_rfl))
 f300:=Tryz.func315.trans (Zl some (by kernel_rfl))
 f301:=Tryz.func316.trans (Zl some (by kernel_rfl))
 f328:=Tryz.func326.trans (Zl some (by kernel_rfl))
 f329:=Tryz.func327.trans (Zl some (by kernel_rfl))
 f330:=Tryz.func328.trans (Zl some (by kernel_rfl))
 f331:=Tryz.func329.trans (Zl some (by kernel_rfl))
 f332:=Tryz.func330.trans (Zl some (by kernel_rfl))
 f343:=Tryz.func338.trans (Zl some (by kernel_rfl))
 t0:=Tryz.underlying0
 a0:=Tryz.isAgg0
 z0:=Tryz.sizeOf0
 v0:=Tryz.zeroValue0
 t3:=Tryz.underlying3
 a3:=Tryz.isAgg3
 z3:=Tryz.sizeOf3
 v3:=Tryz.zeroValue3
 t4:=Tryz.underlying4
 a4:=Tryz.isAgg4
 z4:=Tryz.sizeOf4
 v4:=Tryz.zeroValue4
 t5:=Tryz.underlying5
 a5:=Tryz.isAgg5
 z5:=Tryz.sizeOf5
 v5:=Tryz.zeroValue5
 t9:=Tryz.underlying9
 a9:=Tryz.isAgg9
 z9:=Tryz.sizeOf9
 v9:=Tryz.zeroValue9
 t28:=Tryz.underlying132
 a28:=Tryz.isAgg132
 z28:=Tryz.sizeOf132
 v28:=Tryz.zeroValue132
 t46:=Tryz.underlying171
 a46:=Tryz.isAgg171
 z46:=Tryz.sizeOf171
 v46:=Tryz.zeroValue171
 t51:=Tryz.underlying257
 a51:=Tryz.isAgg257
 z51:=Tryz.sizeOf257
 v51:=Tryz.zeroValue257
 t53:=Tryz.underlying259
 a53:=Tryz.isAgg259
 z53:=Tryz.sizeOf259
 v53:=Tryz.zeroValue259
 t131:=Tryz.underlying215
 a131:=Tryz.isAgg215
 z131:=Tryz.sizeOf215
 v131:=Tryz.zeroValue215
 t182:=Tryz.underlying268
 a182:=Tryz.isAgg268
 z182:=Tryz.sizeOf268
 v182:=Tryz.zeroValue268
 t183:=Tryz.underlying269
 a183:=Tryz.isAgg269
 z183:=Tryz.sizeOf269
 v183:=Tryz.zeroValue269
 t218:=Tryz.underlying283
 a218:=Tryz.isAgg283
 z218:=Tryz.sizeOf283
 v218:=Tryz.zeroValue283
 t222:=Tryz.underlying281
 a222:=Tryz.isAgg281
 z222:=Tryz.sizeOf281
 v222:=Tryz.zeroValue281
 t228:=Tryz.underlying289
 a228:=Tryz.isAgg289
 z228:=Tryz.sizeOf289
 v228:=Tryz.zeroValue289
 t229:=Tryz.underlying287
 a229:=Tryz.isAgg287
 z229:=Tryz.sizeOf287
 v229:=Tryz.zeroValue287 }
def Tryz.laysGg6_ren:Go.Shelf.Ren:=⟨fun |6=>269|10=>280|11=>281|12=>282|13=>283|14=>284|24=>298|25=>299|26=>300|27=>301|28=>302|29=>303|30=>304|31=>305|32=>306|33=>307|34=>321|35=>322|36=>323|37=>324|38=>325|39=>337|n=>n,fun |20=>20|26=>231|35=>241|0=>0|37=>243|3=>3|41=>171|44=>249|49=>257|51=>259|4=>4|54=>262|53=>261|58=>215|5=>5|9=>9|60=>277|64=>281|66=>286|67=>287|17=>17|32=>238|33=>239|82=>310|12=>12|75=>303|76=>304|77=>305|78=>306|79=>307|80=>308|n=>n,fun |n=>n⟩
theorem Tryz.laysGg6:Go.Proofs.LaysGg.n6 Tryz.prog Tryz.laysGg6_ren:= {
 mixed:=by kernel_rfl
 f6:=Tryz.func269.trans (Zl some (by kernel_rfl))
 f10:=Tryz.func280.trans (Zl some (by kernel_rfl))
 f11:=Tryz.func281.trans (Zl some (by kernel_rfl))
 f12:=Tryz.func282.trans (Zl some (by kernel_rfl))
 f13:=Tryz.func283.trans (Zl some (by kernel_rfl))
 f14:=Tryz.func284.trans (Zl some (by kernel_rfl))
 f24:=Tryz.func298.trans (Zl some (by kernel_rfl))
 f25:=Tryz.func299.trans (Zl some (by kernel_rfl))
 f26:=Tryz.func300.trans (Zl some (by kernel_rfl))
 f27:=Tryz.func301.trans (Zl some (by kernel_rfl))
 f28:=Tryz.func302.trans (Zl some (by kernel_rfl))
 f29:=Tryz.func303.trans (Zl some (by kernel_rfl))
 f30:=Tryz.func304.trans (Zl some (by kernel_rfl))
 f31:=Tryz.func305.trans (Zl some (by kernel_rfl))
 f32:=Tryz.func306.trans (Zl some (by kernel_rfl))
 f33:=Tryz.func307.trans (Zl some (by kernel_rfl))
 f34:=Tryz.func321.trans (Zl some (by kernel_rfl))
 f35:=Tryz.func322.trans (Zl some (by kernel_rfl))
 f36:=Tryz.func323.trans (Zl some (by kernel_rfl))
 f37:=Tryz.func324.trans (Zl some (by kernel_rfl))
 f38:=Tryz.func325.trans (Zl some (by kernel_rfl))
 f39:=Tryz.func337.trans (Zl some (by kernel_rfl))
 t0:=Tryz.underlying0
 a0:=Tryz.isAgg0
 z0:=Tryz.sizeOf0
 v0:=Tryz.zeroValue0
 i0:=by kernel_rfl
 t3:=Tryz.underlying3
 a3:=Tryz.isAgg3
 z3:=Tryz.sizeOf3
 v3:=Tryz.zeroValue3
 i3:=by kernel_rfl
 t4:=Tryz.underlying4
 a4:=Tryz.isAgg4
 z4:=Tryz.sizeOf4
 v4:=Tryz.zeroValue4
 i4:=by kernel_rfl
 t5:=Tryz.underlying5
 a5:=Tryz.isAgg5
 z5:=Tryz.sizeOf5
 v5:=Tryz.zeroValue5
 i5:=by kernel_rfl
 t9:=Tryz.underlying9
 a9:=Tryz.isAgg9
 z9:=Tryz.sizeOf9
 v9:=Tryz.zeroValue9
 i9:=by kernel_rfl
 t12:=Tryz.underlying12
 a12:=Tryz.isAgg12
 z12:=Tryz.sizeOf12
 v12:=Tryz.zeroValue12
 i12:=by kernel_rfl
 t17:=Tryz.underlying17
 a17:=Tryz.isAgg17
 z17:=Tryz.sizeOf17
 v17:=Tryz.zeroValue17
 i17:=by kernel_rfl
 t20:=Tryz.underlying20
 a20:=Tryz.isAgg20
 z20:=Tryz.sizeOf20
 v20:=Tryz.zeroValue20
 i20:=by kernel_rfl
 t26:=Tryz.underlying231
 a26:=Tryz.isAgg231
 z26:=Tryz.sizeOf231
 v26:=Tryz.zeroValue231
 i26:=by kernel_rfl
 t32:=Tryz.underlying238
 a32:=Tryz.isAgg238
 z32:=Tryz.sizeOf238
 v32:=Tryz.zeroValue238
 i32:=by kernel_rfl
 t33:=Tryz.underlying239
 a33:=Tryz.isAgg239
 z33:=Tryz.sizeOf239
 v33:=Tryz.zeroValue239
 i33:=by kernel_rfl
 t35:=Tryz.underlying241
 a35:=Tryz.isAgg241
 z35:=Tryz.sizeOf241
 v35:=Tryz.zeroValue241
 i35:=by kernel_rfl
 t37:=Tryz.underlying243
 a37:=Tryz.isAgg243
 z37:=Tryz.sizeOf243
 v37:=Tryz.zeroValue243
 i37:=by kernel_rfl
 t41:=Tryz.underlying171
 a41:=Tryz.isAgg171
 z41:=Tryz.sizeOf171
 v41:=Tryz.zeroValue171
 i41:=by kernel_rfl
 t44:=Tryz.underlying249
 a44:=Tryz.isAgg249
 z44:=Tryz.sizeOf249
 v44:=Tryz.zeroValue249
 i44:=by kernel_rfl
 t49:=Tryz.underlying257
 a49:=Tryz.isAgg257
 z49:=Tryz.sizeOf257
 v49:=Tryz.zeroValue257
 i49:=by kernel_rfl
 t51:=Tryz.underlying259
 a51:=Tryz.isAgg259
 z51:=Tryz.sizeOf259
 v51:=Tryz.zeroValue259
 i51:=by kernel_rfl
 t53:=Tryz.underlying261
 a53:=Tryz.isAgg261
 z53:=Tryz.sizeOf261
 v53:=Tryz.zeroValue261
 i53:=by kernel_rfl
 t54:=Tryz.underlying262
 a54:=Tryz.isAgg262
 z54:=Tryz.sizeOf262
 v54:=Tryz.zeroValue262
 i54:=by kernel_rfl
 t58:=Tryz.underlying215
 a58:=Tryz.isAgg215
 z58:=Tryz.sizeOf215
 v58:=Tryz.zeroValue215
 i58:=by kernel_rfl
 t60:=Tryz.underlying277
 a60:=Tryz.isAgg277
 z60:=Tryz.sizeOf277
 v60:=Tryz.zeroValue277
 i60:=by kernel_rfl
 t64:=Tryz.underlying281
 a64:=Tryz.isAgg281
 z64:=Tryz.sizeOf281
 v64:=Tryz.zeroValue281
 i64:=by kernel_rfl
 t66:=Tryz.underlying286
 a66:=Tryz.isAgg286
 z66:=Tryz.sizeOf286
 v66:=Tryz.zeroValue286
 i66:=by kernel_rfl
 t67:=Tryz.underlying287
 a67:=Tryz.isAgg287
 z67:=Tryz.sizeOf287
 v67:=Tryz.zeroValue287
 i67:=by kernel_rfl
 t75:=Tryz.underlying303
 a75:=Tryz.isAgg303
 z75:=Tryz.sizeOf303
 v75:=Tryz.zeroValue303
 i75:=by kernel_rfl
 t76:=Tryz.underlying304
 a76:=Tryz.isAgg304
 z76:=Tryz.sizeOf304
 v76:=Tryz.zeroValue304
 i76:=by kernel_rfl
 t77:=Tryz.underlying305
 a77:=Tryz.isAgg305
 z77:=Tryz.sizeOf305
 v77:=Tryz.zeroValue305
 i77:=by kernel_rfl
 t78:=Tryz.underlying306
 a78:=Tryz.isAgg306
 z78:=Tryz.sizeOf306
 v78:=Tryz.zeroValue306
 i78:=by kernel_rfl
 t79:=Tryz.underlying307
 a79:=Tryz.isAgg307
 z79:=Tryz.sizeOf307
 v79:=Tryz.zeroValue307
 i79:=by kernel_rfl
 t80:=Tryz.underlying308
 a80:=Tryz.isAgg308
 z80:=Tryz.sizeOf308
 v80:=Tryz.zeroValue308
 i80:=by kernel_rfl
 t82:=Tryz.underlying310
 a82:=Tryz.isAgg310
 z82:=Tryz.sizeOf310
 v82:=Tryz.zeroValue310
 i82:=by kernel_rfl }
def Tryz.lays146_ren:Go.Shelf.Ren:=⟨fun |146=>267|221=>279|268=>286|138=>287|143=>288|195=>317|197=>318|218=>319|219=>320|260=>332|217=>333|225=>334|224=>335|267=>336|266=>339|314=>340|n=>n,fun |9=>9|31=>35|3=>3|4=>4|0=>0|105=>274|21=>21|5=>5|46=>171|119=>291|139=>294|138=>293|146=>295|51=>257|n=>n,fun |1=>0|3=>1|4=>2|n=>n⟩
theorem Tryz.lays146:Go.Proofs.Lays.n146 Tryz.prog Tryz.lays146_ren:= {
 mixed:=by kernel_rfl
 f138:=Tryz.func287.trans (Zl some (by kernel_rfl))
 f143:=Tryz.func288.trans (Zl some (by kernel_rfl))
 f146:=Tryz.func267.trans (Zl some (by kernel_rfl))
 f195:=Tryz.func317.trans (Zl some (by kernel_rfl))
 f197:=Tryz.func318.trans (Zl some (by kernel_rfl))
 f217:=Tryz.func333.trans (Zl some (by kernel_rfl))
 f218:=Tryz.func319.trans (Zl some (by kernel_rfl))
 f219:=Tryz.func320.trans (Zl some (by kernel_rfl))
 f221:=Tryz.func279.trans (Zl some (by kernel_rfl))
 f224:=Tryz.func335.trans (Zl some (by kernel_rfl))
 f225:=Tryz.func334.trans (Zl some (by kernel_rfl))
 f260:=Tryz.func332.trans (Zl some (by kernel_rfl))
 f266:=Tryz.func339.trans (Zl some (by kernel_rfl))
 f267:=Tryz.func336.trans (Zl some (by kernel_rfl))
 f268:=Tryz.func286.trans (Zl some (by kernel_rfl))
 f314:=Tryz.func340.trans (Zl some (by kernel_rfl))
 t0:=Tryz.underlying0
 a0:=Tryz.isAgg0
 z0:=Tryz.sizeOf0
 v0:=Tryz.zeroValue0
 t3:=Tryz.underlying3
 a3:=Tryz.isAgg3
 z3:=Tryz.sizeOf3
 v3:=Tryz.zeroValue3
 t4:=Tryz.underlying4
 a4:=Tryz.isAgg4
 z4:=Tryz.sizeOf4
 v4:=Tryz.zeroValue4
 t5:=Tryz.underlying5
 a5:=Tryz.isAgg5
 z5:=Tryz.sizeOf5
 v5:=Tryz.zeroValue5
 t9:=Tryz.underlying9
 a9:=Tryz.isAgg9
 z9:=Tryz.sizeOf9
 v9:=Tryz.zeroValue9
 t21:=Tryz.underlying21
 a21:=Tryz.isAgg21
 z21:=Tryz.sizeOf21
 v21:=Tryz.zeroValue21
 t31:=Tryz.underlying35
 a31:=Tryz.isAgg35
 z31:=Tryz.sizeOf35
 v31:=Tryz.zeroValue35
 t46:=Tryz.underlying171
 a46:=Tryz.isAgg171
 z46:=Tryz.sizeOf171
 v46:=Tryz.zeroValue171
 t51:=Tryz.underlying257
 a51:=Tryz.isAgg257
 z51:=Tryz.sizeOf257
 v51:=Tryz.zeroValue257
 t105:=Tryz.underlying274
 a105:=Tryz.isAgg274
 z105:=Tryz.sizeOf274
 v105:=Tryz.zeroValue274
 t119:=Tryz.underlying291
 a119:=Tryz.isAgg291
 z119:=Tryz.sizeOf291
 t138:=Tryz.underlying293
 a138:=Tryz.isAgg293
 z138:=Tryz.sizeOf293
 v138:=Tryz.zeroValue293
 t139:=Tryz.underlying294
 a139:=Tryz.isAgg294
 z139:=Tryz.sizeOf294
 v139:=Tryz.zeroValue294
 t146:=Tryz.underlying295
 a146:=Tryz.isAgg295
 z146:=Tryz.sizeOf295
 v146:=Tryz.zeroValue295
 g1:=by kernel_rfl
 g3:=by kernel_rfl
 g4:=by kernel_rfl }
end Go.Proofs
end
section
open Go.Proofs
namespace Go.Ab.T
variable [Inhabited Lb]
abbrev AbC(f:FuncId)(a:List Arg)(r:CallO):Prop:=AbsCalls Tryz.prog f a r
abbrev W(x:Int):Int:=IntKind.i64.wrap x
abbrev Ln{α:Type}(l:List α):Nat:=List.length l
abbrev tN(x:Int):Nat:=Int.toNat x
abbrev gD{α:Type}(l:List α)(i:Nat)(d:α):α:=List.getD l i d
abbrev iY(b:Bool):Prop:=b=true
abbrev iN(b:Bool):Prop:=b=false
abbrev dc(p:Prop) [Decidable p]:Bool:=decide p
abbrev vd:Val:=Dv
abbrev rd:Rowd:=Ty.row.dflt
end Go.Ab.T
end
section
open Go.Proofs
namespace Go.Ab.T
set_option maxRecDepth 100000
variable [Inhabited Lb]
def tt:TT:=[(3,{ zero:=some [.int .i64 0],ik:=some .i64 }),
 (4,{ zero:=some [.bool false],isBool:=true }),
 (5,{ zero:=some [.int .u8 0],ik:=some .u8 }),
 (9,{ zero:=some [.str []],isStr:=true }),
 (22,{ zero:=some [.sl .own .byte []],elem:=some (5,.byte) }),
 (24,{ zero:=some [.sl .own .exp []],elem:=some (26,.exp) }),
 (26,{ sz:=4,agg:=true,zero:=some [.int .i64 0,.int .i64 0,.str [],.sl .own .exp []],offs:=[0,1,2,3],fsz:=[1,1,1,1] }),
 (27,{ zero:=some [.sl .own .bnd []],elem:=some (106,.bnd) }),
 (28,{ zero:=some [.sl .own .rea []],elem:=some (109,.rea) }),
 (29,{ zero:=some [.sl .own .fil []],elem:=some (137,.fil) }),
 (31,{ sz:=3,agg:=true,zero:=some [.int .i64 0,.int .i64 0,.sl .own .fil []],offs:=[0,1,2],fsz:=[1,1,1] }),
 (34,{ zero:=some [.sl .own .val []],elem:=some (38,.val) }),
 (35,{ zero:=some [.sl .own .str []],elem:=some (9,.str) }),
 (36,{ zero:=some [.sl .own .row []],elem:=some (150,.row) }),
 (38,{ sz:=7,agg:=true,zero:=some [.int .i64 0,.int .i64 0,.int .i64 0,.str [],.sl .own .val [],.sl .own .str [],.sl .own .row []],offs:=[0,1,2,3,4,5,6],fsz:=[1,1,1,1,1,1,1] }),
 (40,{ sz:=9,agg:=true,zero:=some [.int .i64 0,.int .i64 0,.int .i64 0,.str [],.sl .own .val [],.sl .own .str [],.sl .own .row [],.sl .own .rea [],.int .i64 0],offs:=[0,7,8],fsz:=[7,1,1] }),
 (44,{ zero:=some [.sl .own .exp []],elem:=some (46,.exp) }),
 (46,{ sz:=4,agg:=true,zero:=some [.int .i64 0,.int .i64 0,.str [],.sl .own .exp []],offs:=[0,1,2,3],fsz:=[1,1,1,1] }),
 (47,{ zero:=some [.sl .own .bnd []],elem:=some (99,.bnd) }),
 (48,{ zero:=some [.sl .own .rea []],elem:=some (102,.rea) }),
 (49,{ zero:=some [.sl .own .fil []],elem:=some (159,.fil) }),
 (51,{ sz:=3,agg:=true,zero:=some [.int .i64 0,.int .i64 0,.sl .own .fil []],offs:=[0,1,2],fsz:=[1,1,1] }),
 (82,{ sz:=9,agg:=true,zero:=some [.sl .own .rea [],.int .i64 0,.int .i64 0,.sl .own .fil [],.int .i64 0,.int .i64 0,.sl .own .rea [],.int .i64 0,.bool false],offs:=[0,1,4,5,6,7,8],fsz:=[1,3,1,1,1,1,1] }),
 (89,{ sz:=9,agg:=true,zero:=some [.sl .own .rea [],.int .i64 0,.int .i64 0,.sl .own .fil [],.int .i64 0,.int .i64 0,.sl .own .rea [],.int .i64 0,.bool false],offs:=[0,1,4,5,6,7,8],fsz:=[1,3,1,1,1,1,1] }),
 (94,{ zero:=some [.sl .own .val []],elem:=some (97,.val) }),
 (95,{ zero:=some [.sl .own .row []],elem:=some (203,.row) }),
 (97,{ sz:=7,agg:=true,zero:=some [.int .i64 0,.int .i64 0,.int .i64 0,.str [],.sl .own .val [],.sl .own .str [],.sl .own .row []],offs:=[0,1,2,3,4,5,6],fsz:=[1,1,1,1,1,1,1] }),
 (99,{ sz:=8,agg:=true,zero:=some [.str [],.int .i64 0,.int .i64 0,.int .i64 0,.str [],.sl .own .val [],.sl .own .str [],.sl .own .row []],offs:=[0,1],fsz:=[1,7] }),
 (102,{ sz:=11,agg:=true,zero:=some [.int .i64 0,.int .i64 0,.int .i64 0,.str [],.int .i64 0,.int .i64 0,.int .i64 0,.str [],.sl .own .val [],.sl .own .str [],.sl .own .row []],offs:=[0,1,2,3,4],fsz:=[1,1,1,1,7] }),
 (106,{ sz:=8,agg:=true,zero:=some [.str [],.int .i64 0,.int .i64 0,.int .i64 0,.str [],.sl .own .val [],.sl .own .str [],.sl .own .row []],offs:=[0,1],fsz:=[1,7] }),
 (109,{ sz:=11,agg:=true,zero:=some [.int .i64 0,.int .i64 0,.int .i64 0,.str [],.int .i64 0,.int .i64 0,.int .i64 0,.str [],.sl .own .val [],.sl .own .str [],.sl .own .row []],offs:=[0,1,2,3,4],fsz:=[1,1,1,1,7] }),
 (124,{ sz:=3,agg:=true,zero:=some [.sl .own .byte [],.int .i64 0,.int .i64 0],offs:=[0,1,2],fsz:=[1,1,1] }),
 (132,{ zero:=some [.sl .own .int []],elem:=some (3,.int) }),
 (137,{ sz:=2,agg:=true,zero:=some [.str [],.int .i64 0],offs:=[0,1],fsz:=[1,1] }),
 (148,{ zero:=some [.sl .own .org []],elem:=some (179,.org) }),
 (150,{ sz:=2,agg:=true,zero:=some [.sl .own .int [],.sl .own .org []],offs:=[0,1],fsz:=[1,1] }),
 (159,{ sz:=2,agg:=true,zero:=some [.str [],.int .i64 0],offs:=[0,1],fsz:=[1,1] }),
 (171,{ zero:=some [.int .u64 0],ik:=some .u64 }),
 (179,{ sz:=2,agg:=true,zero:=some [.int .i64 0,.int .i64 0],offs:=[0,1],fsz:=[1,1],same:=true }),
 (201,{ zero:=some [.sl .own .org []],elem:=some (236,.org) }),
 (203,{ sz:=2,agg:=true,zero:=some [.sl .own .int [],.sl .own .org []],offs:=[0,1],fsz:=[1,1] }),
 (231,{ zero:=some [.val .nilFunc],isFn:=true }),
 (236,{ sz:=2,agg:=true,zero:=some [.int .i64 0,.int .i64 0],offs:=[0,1],fsz:=[1,1],same:=true }),
 (243,{ zero:=some [.val .nilFunc],isFn:=true }),
 (249,{ sz:=2,agg:=true,zero:=some [.val .nilFunc,.val .nilFunc],offs:=[0,1],fsz:=[1,1] }),
 (259,{ zero:=some [.int .u64 0],ik:=some .u64 }),
 (261,{ zero:=some [.int .i64 0],ik:=some .i64 }),
 (277,{ zero:=some [.int .u64 0],ik:=some .u64 })]
theorem NW:aP Tryz.prog tt:=AG (by kernel_rfl)
theorem mix:Tryz.prog.follows .mixedOrders=true:=by kernel_rfl
def F:Bool:=false
def cl(r:CallO):CallO:=⟨r.res,r.outs,[.clo 0 []]⟩
def Y:Bool:=true
noncomputable def mI (fn:Func) (keep:List Nat) (live:List (Nat×List Nat):=[]) (modes:List (Nat×List (Nat×Md×Bool)):=[]) (ext:List Nat:=[]) (lnt:List (Nat×Nat):=[]) (casts:List (Nat×List (Nat×Nat×Bool)):=[]) (fcast:List (Nat×Nat×Bool):=[]):Info:= { body:=fn.body.getD .skip,nt:=fn.ntmps,results:=fn.results.toList,keep:=keep,live:=live,modes:=modes,ext:=ext,lnt:=lnt,casts:=casts,fcast:=fcast }
noncomputable def rE (I:Info) (ag:List Arg) (bs:List Bool) (cs:List CallO):Option Res:=run tt (AbsCalls Tryz.prog) I 3000 false [.code I.body] ⟨bF 0 ag,bs,cs,[]⟩
noncomputable def rS (k:Nat) (I:Info) (σ:St) (bs:List Bool) (cs:List CallO):Option Res:=run tt (AbsCalls Tryz.prog) I 3000 true (AF k I.body) ⟨σ,bs,cs,[]⟩
noncomputable def dn (r:CallO) (ob:List Prop):Option Res:=some (.done r ob)
noncomputable def st (k:Nat) (I:Info) (σ:St) (ob:List Prop):Option Res:=some (.stop (AF k I.body) σ ob)
def H{α:Type}(bs:List Bool)(cs:List CallO)(ob:List Prop)(x:Option α)(r:α):Prop:=(∀p∈ob,p)/\x=some r
def nth:List Prop->Nat->Prop
 | [],_=>True
 |p::_,0=>p
 |_::l,n+1=>nth l n
theorem gt0:∀ {ob:List Prop} (_:∀p∈ob,p) (n:Nat),nth ob n
 | [],_,_=>trivial
 |_::_,a,0=>a _ Zp
 |_::_,a,n+1=>gt0 (fun q h=>a q (Zr _ h)) n
section
variable {α ρ:Type} {f g:FuncId} {fn:Func} {I:Info} {ag az:List Arg} {bs:List Bool} {cs:List CallO} {k j:Nat} {σ σ' :St} {ob:List Prop} {ro:ρ->CallO} {q R O E:CallO} {b c:Bool} {p C:Prop} {x y:Option α} {r:α}
def RE(hf:FnOk Tryz.prog f fn I)(ag:List Arg)(r:CallO):Prop:=Reach Tryz.prog fn I [.code I.body] (bF 0 ag) r
def RS(hf:FnOk Tryz.prog f fn I)(k:Nat)(σ:St)(r:CallO):Prop:=Reach Tryz.prog fn I (AF k I.body) σ r
theorem fO(h1:Tryz.prog.funcs[f]? =some fn)(keep:List Nat)(live:List (Nat×List Nat):=[])(modes:List (Nat×List (Nat×Md×Bool)):=[])(ext:List Nat:=[])(lnt:List (Nat×Nat):=[])(casts:List (Nat×List (Nat×Nat×Bool)):=[])(fcast:List (Nat×Nat×Bool):=[])(h2:fn.body=some (fn.body.getD .skip):=by kernel_rfl)(h5:(fn.name== "runtime.NumGoroutine")=false:=by kernel_rfl):FnOk Tryz.prog f fn (mI fn keep live modes ext lnt casts fcast):=⟨h1,h2,rfl,rfl,h5⟩
theorem oK(hf:FnOk Tryz.prog f fn I)(h:RE hf ag q)(h1:sQ ag=true:=by kernel_rfl)(h2:I.ext=aK 0 ag:=by kernel_rfl)(h3:(bI 0 ag).length=I.lnt.length:=by kernel_rfl)(h4:Nat.ble ag.length I.nt=true:=by kernel_rfl):AbC f ag q:=AbsCalls.of_reach hf h1 h2 h3 (jL h4) h
theorem oA(h:x=some r):H [] [] [] x r:=⟨(fun _ h=>by cases h),h⟩
theorem H.rev(a:H bs cs ob x r):∀p∈ob.reverse,p:=fun p h=>a.1 p (YU.1 h)
theorem ap(h:p)(a:H bs cs ob x r):H bs cs (p::ob) x r:=⟨AD h a.1,a.2⟩
theorem gt(n:Nat)(a:H bs cs ob x r):nth ob n:=gt0 a.1 n
theorem rp(n:Nat)(a:H bs cs ob x r):H bs cs (nth ob n::ob) x r:=⟨AD (gt n a) a.1,a.2⟩
theorem rb(c:Bool)(n:Nat)(a:H bs cs ob x r):H (c::bs) cs (nth ob n::ob) x r:=⟨AD (gt n a) a.1,a.2⟩
theorem cb(c:Bool)(a:H bs cs ob x r):H (c::bs) cs ((c=c)::ob) x r:=⟨AD rfl a.1,a.2⟩
theorem ax(b c:Bool)(h:b=c)(a:H bs cs ob x r):H (c::bs) cs ((b=c)::ob) x r:=⟨AD h a.1,a.2⟩
theorem iE [Decidable p](h:H bs cs ob (if p then x else none) r):H bs cs (p::ob) x r:=(zY h.2).elim fun h1 h2=>⟨AD h1 h.1,h2⟩
theorem cE(h:H bs cs ob (cond b x y) r)(f:H (true::bs) cs ((b=true)::ob) x r->C)(g:H (false::bs) cs ((b=false)::ob) y r->C):C:=(zU h.2).elim (fun e=>f ⟨AD e.1 h.1,e.2⟩) fun e=>g ⟨AD e.1 h.1,e.2⟩
theorem cM(k:AbC g az (cond b R O))(h:H bs cs ob (cond b x y) r)(f:H bs (R::cs) (AbC g az R::ob) x r->C)(g:H bs (O::cs) (AbC g az O::ob) y r->C):C:=by
 rcases zU h.2 with ⟨h1,e⟩|⟨h1,e⟩ <;>subst h1
 ·exact f ⟨AD k h.1,e⟩
 ·exact g ⟨AD k h.1,e⟩
theorem cN{e0 e1 e2:Bool}(k:AbC g az (cond b R O))(h:H bs cs ob (cond b (if e0=true then if e1=true then if e2=true then x else none else none else none) y) r)(t:b=true->e0=true->e1=true->e2=true->AbC g az E)(f:H bs (E::cs) (AbC g az E::ob) x r->C)(g:H bs (O::cs) (AbC g az O::ob) y r->C):C:=by
 rcases zU h.2 with ⟨h1,e⟩|⟨h1,e⟩
 ·obtain⟨h2,e⟩:=zY e;obtain⟨h3,e⟩:=zY e;obtain⟨h4,e⟩:=zY e;exact f ⟨AD (t h1 h2 h3 h4) h.1,e⟩
 ·subst h1;exact g ⟨AD k h.1,e⟩
section
variable {o:Option ρ} {x:ρ->Option α} {r:α}
theorem bE(h:H bs cs ob (Option.bind o x) r)(k:∀ {v},o=some v->AbC g az (ro v))(f:∀v,H bs (ro v::cs) (AbC g az (ro v)::ob) (x v) r->C):C:=(zS h.2).elim fun v e=>f v ⟨AD (k e.1) h.1,e.2⟩
theorem bL(h:H bs cs ob (Option.bind o x) r)(k:∀ {v},o=some v->AbC g az (ro v))(f:∀v,H bs (cl (ro v)::cs) (AbC g az (ro v)::ob) (x v) r->C):C:=(zS h.2).elim fun v e=>f v ⟨AD (k e.1) h.1,e.2⟩
theorem bK(h:H bs cs ob (Option.bind o x) r)(k:∀ {v},o=some v->AbC g az (ro v))(f:∀v,AbC g az (ro v)->H bs cs ob (x v) r->C):C:=(zS h.2).elim fun v e=>f v (k e.1) ⟨h.1,e.2⟩
end
theorem nE{r:α}(h:none=some r):C:=by cases h
section
variable {x r:ρ} {hf:FnOk Tryz.prog f fn I}
theorem dE(a:H bs cs ob (some x) r)(h:rE I ag bs.reverse cs.reverse=dn (ro x) ob.reverse:=by kernel_rfl):RE hf ag (ro r):=by
 have e:=a.2;cases e;exact Reach.done NW mix hf h a.rev
theorem dS(a:H bs cs ob (some x) r)(h:rS k I σ bs.reverse cs.reverse=dn (ro x) ob.reverse:=by kernel_rfl):RS hf k σ (ro r):=by
 have e:=a.2;cases e;exact Reach.done NW mix hf h a.rev
end
theorem uE{hf:FnOk Tryz.prog f fn I}(a:H bs cs ob x r)(t:x=some r->RS hf k σ q)(h:rE I ag bs.reverse cs.reverse=st k I σ ob.reverse:=by kernel_rfl):RE hf ag q:=Reach.stop NW mix hf h a.rev (t a.2)
theorem uS{hf:FnOk Tryz.prog f fn I}(a:H bs cs ob x r)(t:x=some r->RS hf k σ q)(h:rS j I σ' bs.reverse cs.reverse=st k I σ ob.reverse:=by kernel_rfl):RS hf j σ' q:=Reach.stop NW mix hf h a.rev (t a.2)
theorem nI{P:Nat->Prop}(z:P 0)(s:∀n,P n->P (n+1)):∀n,P n:=fun n=>Nat.rec z s n
end
theorem xIC{N a0 r}(h:M6 N a0=some r):AbC 323 [.box [.int .u64 a0]] (xID r):=
 oK (fO Tryz.func323 [0,4,1] (ext:=[0])) <| dE (ap (show(0:Int)<=17/\(17:Int)<64 by decide) (ap (show(0:Int)<=7/\(7:Int)<64 by decide) (ap (show(0:Int)<=13/\(13:Int)<64 by decide) (oA h))))
theorem xG1{N:Nat}{a0 r:Int}(h:O3 N a0=some r):AbC 283 [.val (.v false [.int .u64 a0])] (A9 r):=
 zZ (xDR Tryz.lays125) (Any.bits_Len Tryz.lays125) h
theorem xIt{N a0 r}(h:M0 N a0=some r):AbC 322 [.val (vI a0)] (xIu r):=
 oK (fO Tryz.func322 [0,4,6] [] [(2,[(0,.take,false)])]) <| bE (oA h) xG1 fun r1 h=>dE (iE h)
theorem BD{N:Nat}{a0 a1:Int}{a2 r:List Org}(h:Av N a0 a1 a2=some r):AbC 297 [.val (vI a0),.val (vI a1),.val (vS (.lnt 0) .org a2),.val (.v false [.val (.pointer (some ⟨3,179,none⟩))])] (xGj r):=
 AB (run_callFunc_extern Tryz.func297 (by kernel_rfl) (by kernel_rfl) (by kernel_rfl) (by kernel_rfl)) 179 _ (Option.some_get (by kernel_rfl:(Tryz.prog.info? 179).isSome=true)).symm (by kernel_rfl) Tryz.isAgg179 h
def SV:=fO Tryz.func304 [0,2,4,6,12,14,26,2000006,7,2000007] [(3,[6,12,14,2000006,7,2000007])] (ext:=[1000003])
theorem xDd{N}:∀n {x6 x7 g003 r},Ie N n x6 x7 g003=some r->RS SV 3 [(6,vP 3),(12,vI x6),(14,vI x7),(7,.v true [.clo 270 [1000003],.swp 297 0 (.pointer (some ⟨3,179,none⟩)) 1000003]),(2000007,.v true [.sl (.lnt 0) .org g003])] (Az r):=
 nI nE fun n ih=>fun h=>cE (oA h) (fun h=>bE h BD fun r1 h=>uS (iE (iE h)) ih) fun h=>dS h
theorem xIB{N a0 a1 a2 r}(h:M5 N a0 a1 a2=some r):AbC 304 (Ic a0 a1 a2) (Az r):=
 oK SV <| uE (oA h) (xDd _)
def SU:=fO Tryz.func302 [0,2,4,6,12,14,16,18,20,30,66,86,2000006,7,15,2000007] [(6,[2,6,12,14,16,18,2000006,7,15,2000007])] [(8,[(1,.take,false)])] (ext:=[1000003])
theorem xDa{N}:∀n {x1 x6 x8 x9 b7 g003 r},Gm N n x1 x6 x8 x9 b7 g003=some r->RS SU 6 [(2,vI x1),(6,vP 3),(12,vI x6),(14,vP 7),(16,.v false [.int .u64 x8]),(18,vI x9),(7,.v true [.clo 270 [1000003],.swp 297 0 (.pointer (some ⟨3,179,none⟩)) 1000003]),(15,.v true [.int .u64 b7]),(2000007,.v true [.sl (.lnt 0) .org g003])] (Az r):=
 nI nE fun n ih=>fun h=>cE (ap (show 4≠(0:Int) by decide) (oA h)) (fun h=>bE h xIC fun r1 h=>cE h (fun h=>bE h BD fun r2 h=>uS (iE (iE h)) ih) fun h=>bE h BD fun r2 h=>uS (iE (iE h)) ih) fun h=>dS h
theorem xIn{N a0 a1 a2 r}(h:MW N a0 a1 a2=some r):AbC 302 (Ic a0 a1 a2) (Az r):=
 oK SU <| cE (oA h) (fun h=>bE h xIt fun r1 h=>uE (ap (show 4≠(0:Int) by decide) h) (xDa _)) fun h=>dE h
theorem T0{N a0 a1 r}(h:IF N a0 a1=some r):AbC 266 (TZ a0 a1) (AN r):=
 oK (fO Tryz.func266 [0,2,4,6,8,5,7] [] [(1,[(5,.take,false),(11,.take,false)])]) <| cE (oA h) (fun h=>dE h) fun h=>cE h (fun h=>dE h) fun h=>dE h
theorem Bw{N a0 a1 a2 r}(h:BR N a0 a1 a2=some r):AbC 270 [.val (vI a0),.val (vI a1),.box [.sl (.lnt 0) .org a2]] (C6 r):=
 oK (fO Tryz.func270 [0,2,4,10,5] (ext:=[2])) <| bE (iE (iE (oA h))) T0 fun r1 h=>dE h
def Hh:=fO Tryz.func307 [0,2,4,6,8,16,18,20,22,60,86,96,146,172,182,2000008,9,2000009] [(3,[2,8,20,22,2000008,9,2000009]),(5,[2,8,20,22,2000008,9,2000009]),(13,[2,8,20,22,2000008,9,2000009]),(15,[2,8,20,22,2000008,9,2000009])] [(3,[(3,.take,false)]),(5,[(3,.take,false)]),(13,[(3,.take,false)]),(15,[(3,.take,false)])] (ext:=[1000004])
def Py(x1 x10 x11:Int)(g004:List Org):St:=[(2,vI x1),(8,vP 4),(20,vI x10),(22,vI x11),(9,.v true [.clo 270 [1000004],.swp 297 0 (.pointer (some ⟨3,179,none⟩)) 1000004]),(2000009,.v true [.sl (.lnt 0) .org g004])]
theorem QR{N}{k13}(hk13:∀ {z0 z1 z2 z3 r},k13 z0 z1 z2 z3=some r->RS Hh 13 (Py z0 z1 z2 z3) (Ib r)):∀n {x1 x10 x11 g004 r},FU N k13 n x1 x10 x11 g004=some r->RS Hh 15 [(2,vI x1),(8,vP 4),(20,vI x10),(22,vI x11),(9,.v true [.clo 270 [1000004],.swp 297 0 (.pointer (some ⟨3,179,none⟩)) 1000004]),(2000009,.v true [.sl (.lnt 0) .org g004])] (Ib r):=
 nI nE fun n ih=>fun h=>cE (oA h) (fun h=>bE h Bw fun r1 h=>cE h (fun h=>uS h ih) fun h=>cE h (fun h=>bE h BD fun r2 h=>dS (iE (iE h))) fun h=>bE h BD fun r2 h=>uS (iE (iE h)) hk13) fun h=>cE (cb F h) (fun h=>bE h BD fun r1 h=>dS (iE (iE h))) fun h=>bE h BD fun r1 h=>uS (iE (iE h)) hk13
theorem QQ{N}:∀n {x1 x10 x11 g004 r},D9 N n x1 x10 x11 g004=some r->RS Hh 13 (Py x1 x10 x11 g004) (Ib r):=
 nI nE fun n ih=>fun h=>cE (oA h) (fun h=>bE h Bw fun r1 h=>cE h (fun h=>uS h ih) fun h=>uS h (QR ih _)) fun h=>uS (cb F h) (QR ih _)
theorem QS{N}:∀n {x1 x10 x11 g004 r},FV N n x1 x10 x11 g004=some r->RS Hh 5 [(2,vI x1),(8,vP 4),(20,vI x10),(22,vI x11),(9,.v true [.clo 270 [1000004],.swp 297 0 (.pointer (some ⟨3,179,none⟩)) 1000004]),(2000009,.v true [.sl (.lnt 0) .org g004])] (Ib r):=
 nI nE fun n ih=>fun h=>cE (oA h) (fun h=>bE h Bw fun r1 h=>cE h (fun h=>uS h ih) fun h=>cE h (fun h=>bE h BD fun r2 h=>dS (iE (iE h))) fun h=>bE h BD fun r2 h=>uS (iE (iE h)) (QQ _)) fun h=>cE (cb F h) (fun h=>bE h BD fun r1 h=>dS (iE (iE h))) fun h=>bE h BD fun r1 h=>uS (iE (iE h)) (QQ _)
theorem xBM{N}:∀n {x1 x10 x11 g004 r},Ia N n x1 x10 x11 g004=some r->RS Hh 3 [(2,vI x1),(8,vP 4),(20,vI x10),(22,vI x11),(9,.v true [.clo 270 [1000004],.swp 297 0 (.pointer (some ⟨3,179,none⟩)) 1000004]),(2000009,.v true [.sl (.lnt 0) .org g004])] (Ib r):=
 nI nE fun n ih=>fun h=>cE (oA h) (fun h=>bE h Bw fun r1 h=>cE h (fun h=>uS h ih) fun h=>uS h (QS _)) fun h=>uS (cb F h) (QS _)
theorem xIy{N a0 a1 a2 a3 r}(h:M4 N a0 a1 a2 a3=some r):AbC 307 (I9 a0 a1 a2 a3) (Ib r):=
 oK Hh <| bE (oA h) BD fun r1 h=>uE (iE (iE h)) (xBM _)
def LS:=fO Tryz.func306 [0,2,4,6,8,16,18,20,60,84,94,2000008,9,2000009] [(3,[2,8,18,20,2000008,9,2000009]),(5,[2,8,18,20,2000008,9,2000009])] [(3,[(3,.take,false)]),(5,[(3,.take,false)])] (ext:=[1000004])
def Px(x1 x9 x10:Int)(g004:List Org):St:=[(2,vI x1),(8,vP 4),(18,vI x9),(20,vI x10),(9,.v true [.clo 270 [1000004],.swp 297 0 (.pointer (some ⟨3,179,none⟩)) 1000004]),(2000009,.v true [.sl (.lnt 0) .org g004])]
theorem QP{N}{k3}(hk3:∀ {z0 z1 z2 z3 r},k3 z0 z1 z2 z3=some r->RS LS 3 (Px z0 z1 z2 z3) (M3 r)):∀n {x1 x9 x10 g004 r},FT N k3 n x1 x9 x10 g004=some r->RS LS 5 [(2,vI x1),(8,vP 4),(18,vI x9),(20,vI x10),(9,.v true [.clo 270 [1000004],.swp 297 0 (.pointer (some ⟨3,179,none⟩)) 1000004]),(2000009,.v true [.sl (.lnt 0) .org g004])] (M3 r):=
 nI nE fun n ih=>fun h=>cE (oA h) (fun h=>bE h Bw fun r1 h=>cE h (fun h=>uS h ih) fun h=>cE h (fun h=>dS h) fun h=>bE h BD fun r2 h=>uS (iE (iE h)) hk3) fun h=>cE (cb F h) (fun h=>dS h) fun h=>bE h BD fun r1 h=>uS (iE (iE h)) hk3
theorem xBD{N}:∀n {x1 x9 x10 g004 r},FSq N n x1 x9 x10 g004=some r->RS LS 3 (Px x1 x9 x10 g004) (M3 r):=
 nI nE fun n ih=>fun h=>cE (oA h) (fun h=>bE h Bw fun r1 h=>cE h (fun h=>uS h ih) fun h=>uS h (QP ih _)) fun h=>uS (cb F h) (QP ih _)
theorem xIx{N a0 a1 a2 a3 r}(h:M2 N a0 a1 a2 a3=some r):AbC 306 (I9 a0 a1 a2 a3) (M3 r):=
 oK LS <| bE (oA h) BD fun r1 h=>uE (iE (iE h)) (xBD _)
def Ci:=fO Tryz.func305 [0,2,4,6,12,14,16,18,20,28,56,66,74,94,102,120,140,150,168,2000006,7,2000007] [(3,[2,4,6,14,16,2000006,7,2000007]),(5,[2,4,6,14,16,2000006,7,2000007]),(7,[2,4,6,14,16,2000006,7,2000007]),(14,[2,4,6,14,16,18,2000006,7,2000007]),(18,[2,4,6,14,16,2000006,7,2000007]),(20,[2,4,6,14,16,20,2000006,7,2000007])] [(5,[(3,.take,false)])] (ext:=[1000003])
def Hb(x1 x2 x7 x8:Int)(g003:List Org):St:=[(2,vI x1),(4,vI x2),(6,vP 3),(14,vI x7),(16,vI x8),(7,.v true [.clo 270 [1000003],.swp 297 0 (.pointer (some ⟨3,179,none⟩)) 1000003]),(2000007,.v true [.sl (.lnt 0) .org g003])]
theorem xDg{N}{k3}(hk3:∀ {z0 z1 z2 z3 z4 r},k3 z0 z1 z2 z3 z4=some r->RS Ci 3 (Hb z0 z1 z2 z3 z4) (C6 r)):∀n {x1 x2 x7 x8 x10 g003 r},I6 N k3 n x1 x2 x7 x8 x10 g003=some r->RS Ci 20 [(2,vI x1),(4,vI x2),(6,vP 3),(14,vI x7),(16,vI x8),(20,vI x10),(7,.v true [.clo 270 [1000003],.swp 297 0 (.pointer (some ⟨3,179,none⟩)) 1000003]),(2000007,.v true [.sl (.lnt 0) .org g003])] (C6 r):=
 nI nE fun n ih=>fun h=>cE (oA h) (fun h=>bE h Bw fun r1 h=>cE h (fun h=>uS h hk3) fun h=>bE h BD fun r2 h=>uS (iE (iE h)) ih) fun h=>uS h hk3
theorem Nf{N}{k3}(hk3:∀ {z0 z1 z2 z3 z4 r},k3 z0 z1 z2 z3 z4=some r->RS Ci 3 (Hb z0 z1 z2 z3 z4) (C6 r)):∀ {x1 x2 x7 x8 g003 r},Gn N k3 x1 x2 x7 x8 g003=some r->RS Ci 18 [(2,vI x1),(4,vI x2),(6,vP 3),(14,vI x7),(16,vI x8),(7,.v true [.clo 270 [1000003],.swp 297 0 (.pointer (some ⟨3,179,none⟩)) 1000003]),(2000007,.v true [.sl (.lnt 0) .org g003])] (C6 r):=
 fun h=>cE (oA h) (fun h=>uS h (xDg hk3 _)) fun h=>uS h hk3
theorem xDf{N}{k3}(hk3:∀ {z0 z1 z2 z3 z4 r},k3 z0 z1 z2 z3 z4=some r->RS Ci 3 (Hb z0 z1 z2 z3 z4) (C6 r)):∀n {x1 x2 x7 x8 x9 g003 r},I5 N k3 n x1 x2 x7 x8 x9 g003=some r->RS Ci 14 [(2,vI x1),(4,vI x2),(6,vP 3),(14,vI x7),(16,vI x8),(18,vI x9),(7,.v true [.clo 270 [1000003],.swp 297 0 (.pointer (some ⟨3,179,none⟩)) 1000003]),(2000007,.v true [.sl (.lnt 0) .org g003])] (C6 r):=
 nI nE fun n ih=>fun h=>cE (oA h) (fun h=>bE h Bw fun r1 h=>cE h (fun h=>uS h (Nf hk3)) fun h=>bE h BD fun r2 h=>uS (iE (iE h)) ih) fun h=>uS h (Nf hk3)
theorem Q8{N}{k3}(hk3:∀ {z0 z1 z2 z3 z4 r},k3 z0 z1 z2 z3 z4=some r->RS Ci 3 (Hb z0 z1 z2 z3 z4) (C6 r)):∀ {x1 x2 x7 x8 g003 r},I8 N k3 x1 x2 x7 x8 g003=some r->RS Ci 7 [(2,vI x1),(4,vI x2),(6,vP 3),(14,vI x7),(16,vI x8),(7,.v true [.clo 270 [1000003],.swp 297 0 (.pointer (some ⟨3,179,none⟩)) 1000003]),(2000007,.v true [.sl (.lnt 0) .org g003])] (C6 r):=
 fun h=>cE (oA h) (fun h=>dS h) fun h=>cE h (fun h=>dS h) fun h=>bE h BD fun r1 h=>cE (iE (iE h)) (fun h=>uS h (xDf hk3 _)) fun h=>uS h (Nf hk3)
theorem xDi{N}{k3}(hk3:∀ {z0 z1 z2 z3 z4 r},k3 z0 z1 z2 z3 z4=some r->RS Ci 3 (Hb z0 z1 z2 z3 z4) (C6 r)):∀n {x1 x2 x7 x8 g003 r},I7 N k3 n x1 x2 x7 x8 g003=some r->RS Ci 5 [(2,vI x1),(4,vI x2),(6,vP 3),(14,vI x7),(16,vI x8),(7,.v true [.clo 270 [1000003],.swp 297 0 (.pointer (some ⟨3,179,none⟩)) 1000003]),(2000007,.v true [.sl (.lnt 0) .org g003])] (C6 r):=
 nI nE fun n ih=>fun h=>cE (oA h) (fun h=>bE h Bw fun r1 h=>cE h (fun h=>uS h ih) fun h=>uS h (Q8 hk3)) fun h=>uS (cb F h) (Q8 hk3)
theorem xDh{N}:∀n {x1 x2 x7 x8 g003 r},Gp N n x1 x2 x7 x8 g003=some r->RS Ci 3 (Hb x1 x2 x7 x8 g003) (C6 r):=
 nI nE fun n ih=>fun h=>cE (oA h) (fun h=>uS h (xDi ih _)) fun h=>dS h
theorem xIw{N a0 a1 a2 r}(h:M1 N a0 a1 a2=some r):AbC 305 (Ic a0 a1 a2) (C6 r):=
 oK Ci <| uE (oA h) (xDh _)
theorem PA{N a0 a1 a2 a3 r}(h:I4 N a0 a1 a2 a3=some r):AbC 337 [.val (.v true [.clo 270 [1000004],.swp 297 0 (.pointer (some ⟨3,179,none⟩)) 1000004]),.val (vI a0),.val (vI a1),.box [.int .i64 a2],.gbox [.sl (.lnt 0) .org a3]] (xIv r):=
 oK (fO Tryz.func337 [0,2,4,6,8,16,18,28,2000008,7,9,2000009] (ext:=[3,1000004])) <| bE (oA h) Bw fun r1 h=>cE h (fun h=>dE h) fun h=>dE h
theorem Oz{N a0 a1 a2 a3 a4 r}(h:I3 N a0 a1 a2 a3 a4=some r):AbC 325 [.val (.v true [.clo 270 [1000005],.swp 297 0 (.pointer (some ⟨3,179,none⟩)) 1000005]),.val (vI a0),.val (vI a1),.val (vI a2),.box [.int .i64 a3],.gbox [.sl (.lnt 0) .org a4]] (Uj r):=
 oK (fO Tryz.func325 [0,2,4,6,8,10,20,2000010,9,11,2000011] [] [(1,[(5,.take,false)]),(2,[(5,.take,false)]),(3,[(5,.take,false)])] (ext:=[4,1000005])) <| bL (oA h) PA fun r1 h=>bL h PA fun r2 h=>bL h PA fun r3 h=>dE h
theorem Oy{N a0 a1 a2 r}(h:I2 N a0 a1 a2=some r):AbC 324 [.val (.v true [.clo 270 [1000003],.swp 297 0 (.pointer (some ⟨3,179,none⟩)) 1000003]),.val (vI a0),.box [.int .i64 a1],.gbox [.sl (.lnt 0) .org a2]] (Uj r):=
 oK (fO Tryz.func324 [0,2,4,6,12,2000006,5,7,2000007] (ext:=[2,1000003])) <| bL (oA h) Oz fun r1 h=>dE h
theorem xIp{N a0 a1 a2 r}(h:MX N a0 a1 a2=some r):AbC 303 (Ic a0 a1 a2) (xIq r):=
 oK (fO Tryz.func303 [0,2,4,6,12,14,16,18,20,22,24,64,68,98,102,108,2000006,7,19,2000007] (ext:=[1000003])) <| cE (rp 1 (rp 0 (ap (show 4≠(0:Int) by decide) (oA h)))) (fun h=>cE h (fun h=>bL h Oy fun r1 h=>bL h Oy fun r2 h=>bL h Oy fun r3 h=>bL h Oz fun r4 h=>cE h (fun h=>dE h) fun h=>cE h (fun h=>dE h) fun h=>dE h) fun h=>bL h Oz fun r1 h=>cE h (fun h=>dE h) fun h=>cE h (fun h=>dE h) fun h=>dE h) fun h=>cE h (fun h=>dE h) fun h=>cE h (fun h=>dE h) fun h=>dE h
def RQ:=fO Tryz.func321 [0,2,4,6,8,16,18,32,64,88,2000008,9,2000009] [(2,[4,6,8,16,2000008,9,2000009])] [(4,[(4,.take,false)])] (ext:=[1000004])
theorem xBS{N}:∀n {x2 x3 x8 g004 r},FW N n x2 x3 x8 g004=some r->RS RQ 2 [(4,vI x2),(6,vI x3),(8,vP 4),(16,vI x8),(9,.v true [.clo 270 [1000004],.swp 297 0 (.pointer (some ⟨3,179,none⟩)) 1000004]),(2000009,.v true [.sl (.lnt 0) .org g004])] (Az r):=
 nI nE fun n ih=>fun h=>cE (oA h) (fun h=>dS h) fun h=>cE h (fun h=>bE h Bw fun r1 h=>cE h (fun h=>bE h Bw fun r2 h=>cE h (fun h=>dS h) fun h=>bE h BD fun r3 h=>uS (iE (iE h)) ih) fun h=>bE h Bw fun r2 h=>cE h (fun h=>dS h) fun h=>bE h BD fun r3 h=>uS (iE (iE h)) ih) fun h=>bE (cb F h) Bw fun r1 h=>cE h (fun h=>dS h) fun h=>bE h BD fun r2 h=>uS (iE (iE h)) ih
theorem Um{N a0 a1 a2 a3 r}(h:If N a0 a1 a2 a3=some r):AbC 321 (I9 a0 a1 a2 a3) (Az r):=
 oK RQ <| uE (oA h) (xBS _)
def Ns:=fO Tryz.func301 [0,2,4,6,12,14,16,18,20,38,60,2000006,7,2000007] [(5,[6,12,14,16,18,2000006,7,2000007]),(9,[6,12,14,20,2000006,7,2000007])] [(12,[(1,.take,false)])] (ext:=[1000003])
theorem xC5{N}:∀n {x6 x7 x10 g003 r},IZ N n x6 x7 x10 g003=some r->RS Ns 9 [(6,vP 3),(12,vI x6),(14,vI x7),(20,vI x10),(7,.v true [.clo 270 [1000003],.swp 297 0 (.pointer (some ⟨3,179,none⟩)) 1000003]),(2000007,.v true [.sl (.lnt 0) .org g003])] (Az r):=
 nI nE fun n ih=>fun h=>cE (oA h) (fun h=>bE h BD fun r1 h=>bL (iE (iE h)) Um fun r2 h=>uS h ih) fun h=>dS h
theorem xC4{N}:∀n {x6 x7 x8 x9 g003 r},IY N n x6 x7 x8 x9 g003=some r->RS Ns 5 [(6,vP 3),(12,vI x6),(14,vI x7),(16,vI x8),(18,vI x9),(7,.v true [.clo 270 [1000003],.swp 297 0 (.pointer (some ⟨3,179,none⟩)) 1000003]),(2000007,.v true [.sl (.lnt 0) .org g003])] (Az r):=
 nI nE fun n ih=>fun h=>cE (oA h) (fun h=>bL h Um fun r1 h=>uS h ih) fun h=>uS h (xC5 _)
theorem xIr{N a0 a1 a2 r}(h:MY N a0 a1 a2=some r):AbC 301 (Ic a0 a1 a2) (Az r):=
 oK Ns <| uE (ap (show 2≠(0:Int) by decide) (oA h)) (xC4 _)
def LY:=fO Tryz.func300 [0,2,4,6,12,14,24,52,2000006,7,2000007] [(2,[2,4,6,12,2000006,7,2000007]),(5,[2,4,6,12,14,2000006,7,2000007])] [(5,[(3,.take,false)])] (ext:=[1000003])
def QD(x1 x2 x6:Int)(g003:List Org):St:=[(2,vI x1),(4,vI x2),(6,vP 3),(12,vI x6),(7,.v true [.clo 270 [1000003],.swp 297 0 (.pointer (some ⟨3,179,none⟩)) 1000003]),(2000007,.v true [.sl (.lnt 0) .org g003])]
theorem xCX{N}{k2}(hk2:∀ {z0 z1 z2 z3 r},k2 z0 z1 z2 z3=some r->RS LY 2 (QD z0 z1 z2 z3) (Az r)):∀n {x1 x2 x6 x7 g003 r},I1 N k2 n x1 x2 x6 x7 g003=some r->RS LY 5 [(2,vI x1),(4,vI x2),(6,vP 3),(12,vI x6),(14,vI x7),(7,.v true [.clo 270 [1000003],.swp 297 0 (.pointer (some ⟨3,179,none⟩)) 1000003]),(2000007,.v true [.sl (.lnt 0) .org g003])] (Az r):=
 nI nE fun n ih=>fun h=>cE (oA h) (fun h=>bE h Bw fun r1 h=>cE h (fun h=>bE h BD fun r2 h=>uS (iE (iE h)) ih) fun h=>uS h hk2) fun h=>uS (cb F h) hk2
theorem xCW{N}:∀n {x1 x2 x6 g003 r},I0 N n x1 x2 x6 g003=some r->RS LY 2 (QD x1 x2 x6 g003) (Az r):=
 nI nE fun n ih=>fun h=>cE (oA h) (fun h=>uS h (xCX ih _)) fun h=>dS h
theorem xIs{N a0 a1 a2 r}(h:MZ N a0 a1 a2=some r):AbC 300 (Ic a0 a1 a2) (Az r):=
 oK LY <| uE (oA h) (xCW _)
def Fr(q:Int->Int->Int->(List Org)->Option ((List Org))):Prop:=∀a0 a1 a2 a3 r,q a0 a1 a2 a3=some r->AbC 284 (I9 a0 a1 a2 a3) (Az r)
def DT:=fO Tryz.func284 [0,2,4,6,8,16,18,20,22,24,26,28,30,32,34,36,46,58,70,100,136,144,166,218,2000008,9,2000009] [(3,[2,4,6,8,16,18,2000008,9,2000009]),(11,[2,4,6,8,16,18,20,2000008,9,2000009]),(16,[2,4,6,8,16,18,20,22,24,2000008,9,2000009]),(18,[2,4,6,8,16,18,20,22,2000008,9,2000009]),(21,[2,4,6,8,20,22,2000008,9,2000009])] [(11,[(4,.take,false)]),(16,[(1,.take,false),(2,.take,false),(4,.take,false)]),(18,[(2,.take,false)]),(20,[(0,.take,false)]),(21,[(5,.take,false)]),(22,[(0,.take,false)])] (ext:=[1000004])
def J6(x1 x2 x3:Int)(x8 x9:Bool)(g004:List Org):St:=[(2,vI x1),(4,vI x2),(6,vI x3),(8,vP 4),(16,vB x8),(18,vB x9),(9,.v true [.clo 270 [1000004],.swp 297 0 (.pointer (some ⟨3,179,none⟩)) 1000004]),(2000009,.v true [.sl (.lnt 0) .org g004])]
theorem Q5{N}{q0}(g0:Fr q0){k3}(hk3:∀ {z0 z1 z2 z3 z4 z5 r},k3 z0 z1 z2 z3 z4 z5=some r->RS DT 3 (J6 z0 z1 z2 z3 z4 z5) (Az r)):∀ {x1 x2 x3 x10 x11 g004 r},KY N q0 k3 x1 x2 x3 x10 x11 g004=some r->RS DT 21 [(2,vI x1),(4,vI x2),(6,vI x3),(8,vP 4),(20,vI x10),(22,vI x11),(9,.v true [.clo 270 [1000004],.swp 297 0 (.pointer (some ⟨3,179,none⟩)) 1000004]),(2000009,.v true [.sl (.lnt 0) .org g004])] (Az r):=
 fun h=>bL (oA h) xIy fun r1 h=>cE (ap (show 8≠(0:Int) by decide) h) (fun h=>bL h (g0 _ _ _ _ _) fun r2 h=>uS h hk3) fun h=>bL h (g0 _ _ _ _ _) fun r2 h=>uS h hk3
theorem LL{N}{q0}(g0:Fr q0){k3}(hk3:∀ {z0 z1 z2 z3 z4 z5 r},k3 z0 z1 z2 z3 z4 z5=some r->RS DT 3 (J6 z0 z1 z2 z3 z4 z5) (Az r)):∀ {x1 x2 x3 x8 x9 x10 x11 g004 r},Gq N q0 k3 x1 x2 x3 x8 x9 x10 x11 g004=some r->RS DT 18 [(2,vI x1),(4,vI x2),(6,vI x3),(8,vP 4),(16,vB x8),(18,vB x9),(20,vI x10),(22,vI x11),(9,.v true [.clo 270 [1000004],.swp 297 0 (.pointer (some ⟨3,179,none⟩)) 1000004]),(2000009,.v true [.sl (.lnt 0) .org g004])] (Az r):=
 fun h=>cE (oA h) (fun h=>bE h Bw fun r1 h=>cE h (fun h=>bL h xIx fun r2 h=>uS h hk3) fun h=>uS h (Q5 g0 hk3)) fun h=>uS (cb F h) (Q5 g0 hk3)
theorem Q4{N}{q0}(g0:Fr q0){k3}(hk3:∀ {z0 z1 z2 z3 z4 z5 r},k3 z0 z1 z2 z3 z4 z5=some r->RS DT 3 (J6 z0 z1 z2 z3 z4 z5) (Az r)):∀ {x1 x2 x3 x8 x9 x10 x11 x12 g004 r},KX N q0 k3 x1 x2 x3 x8 x9 x10 x11 x12 g004=some r->RS DT 16 [(2,vI x1),(4,vI x2),(6,vI x3),(8,vP 4),(16,vB x8),(18,vB x9),(20,vI x10),(22,vI x11),(24,vI x12),(9,.v true [.clo 270 [1000004],.swp 297 0 (.pointer (some ⟨3,179,none⟩)) 1000004]),(2000009,.v true [.sl (.lnt 0) .org g004])] (Az r):=
 fun h=>cE (oA h) (fun h=>cE h (fun h=>cE h (fun h=>bL h xIw fun r1 h=>cE h (fun h=>dS h) fun h=>uS h (LL g0 hk3)) fun h=>uS h (LL g0 hk3)) fun h=>uS (cb F h) (LL g0 hk3)) fun h=>uS (cb F (cb F h)) (LL g0 hk3)
theorem Q3{N}{q0}(g0:Fr q0){k3}(hk3:∀ {z0 z1 z2 z3 z4 z5 r},k3 z0 z1 z2 z3 z4 z5=some r->RS DT 3 (J6 z0 z1 z2 z3 z4 z5) (Az r)):∀ {x1 x2 x3 x8 x9 x10 g004 r},KW N q0 k3 x1 x2 x3 x8 x9 x10 g004=some r->RS DT 11 [(2,vI x1),(4,vI x2),(6,vI x3),(8,vP 4),(16,vB x8),(18,vB x9),(20,vI x10),(9,.v true [.clo 270 [1000004],.swp 297 0 (.pointer (some ⟨3,179,none⟩)) 1000004]),(2000009,.v true [.sl (.lnt 0) .org g004])] (Az r):=
 fun h=>bL (oA h) xIp fun r1 h=>cE h (fun h=>bL h xIB fun r2 h=>uS h (Q4 g0 hk3)) fun h=>uS h (Q4 g0 hk3)
theorem xCf{N}{q0}(g0:Fr q0):∀n {x1 x2 x3 x8 x9 g004 r},Gr N q0 n x1 x2 x3 x8 x9 g004=some r->RS DT 3 (J6 x1 x2 x3 x8 x9 g004) (Az r):=
 nI nE fun n ih=>fun h=>cE (oA h) (fun h=>bL h xIs fun r1 h=>dS h) fun h=>cE h (fun h=>bL h xIr fun r1 h=>dS h) fun h=>cE h (fun h=>bL h xIn fun r1 h=>uS h (Q3 g0 ih)) fun h=>uS h (Q3 g0 ih)
theorem xIz{N}{q0}(g0:Fr q0){a0 a1 a2 a3 r}(h:Uk N q0 a0 a1 a2 a3=some r):AbC 284 (I9 a0 a1 a2 a3) (Az r):=
 oK DT <| uE (oA h) (xCf g0 _)
theorem Ul{N:Nat}:∀d,Fr (Gs N d)
 |0=>fun _ _ _ _ _ h=>nE h
 |d+1=>fun _ _ _ _ _ h=>xIz (N:=N) (Ul d) h
theorem sort_pdqsort_func_cUnionOrigins_1_ok{N:Nat}{a0:Int}{a1:Int}{a2:Int}{a3:List Org}{r:(List Org)}(h:PB N a0 a1 a2 a3=some r):AbC 284 (I9 a0 a1 a2 a3) (Az r):=Ul N _ _ _ _ r h
end Go.Ab.T
end
section
namespace Go.Ab
def Big(p:Nat->Prop):Prop:=∃k,∀N,k<=N->p N
def Big2(p:Nat->Nat->Prop):Prop:=∃k,∀N n,k<=N->k<=n->p N n
theorem Big.imp{p q:Nat->Prop}(h:Big p)(f:∀N,p N->q N):Big q:=h.elim fun k hk=>⟨k,fun N hN=>f N (hk N hN)⟩
theorem Big2.imp{p q:Nat->Nat->Prop}(h:Big2 p)(f:∀N n,p N n->q N n):Big2 q:=h.elim fun k hk=>⟨k,fun N n h1 h2=>f N n (hk N n h1 h2)⟩
theorem Big.of{p:Nat->Prop}(h:∀N,p N):Big p:=⟨0,fun N _=>h N⟩
theorem Big2.of{p:Nat->Nat->Prop}(h:∀N n,p N n):Big2 p:=⟨0,fun N n _ _=>h N n⟩
theorem Big.and{p q:Nat->Prop}(h:Big p)(h' :Big q):Big fun N=>p N/\q N:=by
 obtain⟨a,ha⟩:=h;obtain⟨b,hb⟩:=h';exact⟨max a b,fun N hN=>⟨ha N (by omega),hb N (by omega)⟩⟩
theorem Big2.and{p q:Nat->Nat->Prop}(h:Big2 p)(h' :Big2 q):Big2 fun N n=>p N n/\q N n:=by
 obtain⟨a,ha⟩:=h;obtain⟨b,hb⟩:=h';exact⟨max a b,fun N n h1 h2=>⟨ha N n (by omega) (by omega),hb N n (by omega) (by omega)⟩⟩
theorem Big.two{p:Nat->Prop}(h:Big p):Big2 fun N _=>p N:=h.elim fun k hk=>⟨k,fun N _ h _=>hk N h⟩
theorem Big2.diag{p:Nat->Nat->Prop}(h:Big2 p):Big fun N=>p N N:=h.elim fun k hk=>⟨k,fun N h=>hk N N h h⟩
theorem Big2.succ{p:Nat->Nat->Prop}(h:Big2 fun N n=>p N (n+1)):Big2 p:=by
 obtain⟨k,hk⟩:=h;refine⟨k+1,fun N n h1 h2=> ?_⟩;obtain⟨m,rfl⟩:∃m,n=m+1:=⟨n - 1,by omega⟩
 grind
theorem Big.list{α:Type}{p:α->Nat->Prop}{l:List α}(h:∀x∈l,Big (p x)):Big fun N=>∀x∈l,p x N:=by
 induction l with
 |nil=>grind [of]
 |cons a l ih=>
  refine((h a Zp).and (ih fun x hx=>h x (Zr _ hx))).imp fun N ⟨h1,h2⟩ x hx=> ?_
  grind
theorem Big2.list{α:Type}{p:α->Nat->Nat->Prop}{l:List α}(h:∀x∈l,Big2 (p x)):Big2 fun N n=>∀x∈l,p x N n:=by
 induction l with
 |nil=>grind [of]
 |cons a l ih=>
  refine((h a Zp).and (ih fun x hx=>h x (Zr _ hx))).imp fun N n ⟨h1,h2⟩ x hx=> ?_
  grind
theorem Big2.inner{p:Nat->Nat->Nat->Prop}(h:∃k,∀N d n,k<=N->k<=d->k<=n->p N d n):Big2 fun N d=>p N d N:=by
 obtain⟨k,hk⟩:=h;exact⟨k,fun N d h1 h2=>hk N d N h1 h2 h1⟩
def Big3(p:Nat->Nat->Nat->Prop):Prop:=∃k,∀N d n,k<=N->k<=d->k<=n->p N d n
theorem Big3.inner{p:Nat->Nat->Nat->Prop}(h:Big3 p):Big2 fun N d=>p N d N:=Big2.inner h
theorem Big3.imp{p q:Nat->Nat->Nat->Prop}(h:Big3 p)(f:∀N d n,p N d n->q N d n):Big3 q:=h.elim fun k hk=>⟨k,fun N d n h1 h2 h3=>f N d n (hk N d n h1 h2 h3)⟩
theorem Big3.and{p q:Nat->Nat->Nat->Prop}(h:Big3 p)(h' :Big3 q):Big3 fun N d n=>p N d n/\q N d n:=by
 obtain⟨a,ha⟩:=h;obtain⟨b,hb⟩:=h';exact⟨max a b,fun N d n h1 h2 h3=>⟨ha N d n (by omega) (by omega) (by omega),hb N d n (by omega) (by omega) (by omega)⟩⟩
theorem Big3.succ{p:Nat->Nat->Nat->Prop}(h:Big3 fun N d n=>p N d (n+1)):Big3 p:=by
 obtain⟨k,hk⟩:=h;refine⟨k+1,fun N d n h1 h2 h3=> ?_⟩;obtain⟨m,rfl⟩:∃m,n=m+1:=⟨n - 1,by omega⟩
 grind
theorem Big3.of{p:Nat->Nat->Nat->Prop}(h:∀N d n,p N d n):Big3 p:=⟨0,fun N d n _ _ _=>h N d n⟩
theorem Big2.three{p:Nat->Nat->Prop}(h:Big2 p):Big3 fun N d _=>p N d:=h.elim fun k hk=>⟨k,fun N d _ h1 h2 _=>hk N d h1 h2⟩
theorem Big.get{p:Nat->Prop}(h:Big p):∃N,p N:=h.elim fun k hk=>⟨k,hk k (Zn k)⟩
def I64(x:Int):Prop:= -9223372036854775808<=x/\x<=9223372036854775807
theorem xBo(x:Int):IntKind.i64.wrap x=if x % 18446744073709551616>=9223372036854775808 then x % 18446744073709551616 - 18446744073709551616 else x % 18446744073709551616:=by
 show(if(true&&decide (x % 18446744073709551616>=9223372036854775808))=true then x % 18446744073709551616 - 18446744073709551616 else x % 18446744073709551616)=_
 grind
theorem Af{x:Int}(h1: -9223372036854775808<=x)(h2:x<=9223372036854775807):IntKind.i64.wrap x=x:=by
 grind [xBo]
theorem Ey(x:Int):I64 (IntKind.i64.wrap x):=by
 grind [xBo,I64]
theorem Bk{α:Type}{xs:List α}{i:Nat}{x:α}{l:List α}(h:xs.drop i=x::l):i<xs.length/\xs[i]? =some x/\xs.drop (i+1)=l:=by
 grind [List.drop_eq_nil_of_le,List.drop_eq_getElem_cons]
theorem Hg{α:Type}{xs:List α}{i:Nat}(h:xs.drop i=[]):xs.length<=i:=by simpa using h
end Go.Ab
end
section
namespace Go.Ab
open Go.Sort
theorem UE{a b:Org}:olt a b=true↔a.cell<b.cell\/(a.cell=b.cell/\a.row<b.row):=by
 grind [olt]
theorem Og{a b:Org}:olt a b=false↔b.cell<a.cell\/(a.cell=b.cell/\b.row<=a.row):=by
 grind [UE]
theorem ER:SWO olt where
 irrefl:=fun x=>Og.2 (by omega)
 trans:=fun x y z h1 h2=>by grind [UE]
 ntrans:=fun x y z h1 h2=>by grind [Og]
theorem Oe(x y:Org)(h1:olt x y=false)(h2:olt y x=false):x=y:=by
 rw [Og] at h1 h2;cases x;cases y
 grind
theorem xHt(N:Nat)(a b:Org):IF N a b=some (olt a b):=by
 grind [IF,olt]
theorem xGQ(N:Nat){i j:Nat}{d:Array Org}(hi:i<d.size)(hj:j<d.size):BR N (i:Int) (j:Int) d.toList=some (olt d[i]! d[j]!,d.toList):=by
 grind [BR,xHt]
theorem xKH(N:Nat){i j:Nat}{d:Array Org}(hi:i<d.size)(hj:j<d.size):Av N (i:Int) (j:Int) d.toList=some (swp d i j).toList:=by
 unfold Av rH
 simp_all
theorem wn{x:Int}(n:Nat)(h:x=n)(hn:n<9223372036854775808):i64.wrap x=(n:Int):=by grind [Af]
theorem CZ{β:Type}(N:Nat){x y:Int}{i j:Nat}{d:Array Org}(hx:x=i)(hy:y=j)(hi:i<d.size)(hj:j<d.size)(k:Bool×List Org->Option β):
 Option.bind (BR N x y d.toList) k=k (olt d[i]! d[j]!,d.toList):=by grind [xGQ]
theorem Bg{β:Type}(N:Nat){x y:Int}{i j:Nat}{d:Array Org}(hx:x=i)(hy:y=j)(hi:i<d.size)(hj:j<d.size)(h2:2<=d.size)(k:List Org->Option β):
 (Option.bind (Av N x y d.toList) fun r=>if 2<=List.length d.toList then if List.length r=List.length d.toList then k r else none else none)=k (swp d i j).toList:=by
 grind [xKH,swp]
theorem A0{d:Array Org}{i j:Nat}:(swp d i j).size=d.size:=by simp [swp]
theorem Kv(lt:Org->Org->Bool)(a:Nat):∀(j:Nat) (d:Array Org),(insInner lt a j d).size=d.size
 |0,d=>rfl
 |j+1,d=>by
  unfold insInner;split
  ·rw [Kv lt a j,A0]
  ·rfl
theorem T3(N:Nat)(k:Int->Int->Int->List Org->Option (List Org)){a b i:Nat}(hi:i<4611686018427387904):∀(j n:Nat) (d:Array Org),j<d.size->2<=d.size->d.size<4611686018427387904->j<n->
 I1 N k n (a:Int) (b:Int) (i:Int) (j:Int) d.toList=k (a:Int) (b:Int) ((i+1:Nat):Int) (insInner olt a j d).toList
 |0,n,d,hj,h2,hs,hn=>by
  obtain⟨n,rfl⟩:∃m,n=m+1:=⟨n - 1,by omega⟩;have e:(decide (((0:Nat):Int)>(a:Int)))=false:=Zw (by omega);rw [I1,e,jF,wn (i+1) (by omega) (by omega)]
  rfl
 |j+1,n,d,hj,h2,hs,hn=>by
  obtain⟨n,rfl⟩:∃m,n=m+1:=⟨n - 1,by omega⟩;rw [I1,insInner];by_cases ha:j+1>a
  ·have e:(decide (((j+1:Nat):Int)>(a:Int)))=true:=Zz (by omega);rw [e,jT,wn (n:=j) (by omega) (by omega),CZ N rfl rfl hj (by omega)];dsimp only;cases hl:olt d[j+1]! d[j]! with
   |true=>
    rw [jT,Bg N rfl rfl hj (by omega) h2,T3 N k hi j n _ (by grind [A0]) (by grind [A0]) (by grind [A0]) (by omega)]
    grind
   |false=>
    rw [jF,wn (i+1) (by omega) (by omega),Za (by simp)]
  ·have e:(decide (((j+1:Nat):Int)>(a:Int)))=false:=Zw (by omega);rw [e,jF,wn (i+1) (by omega) (by omega),Za (by grind)]
theorem xGh(N:Nat){a b:Nat}:∀(m i n:Nat) (d:Array Org),b - i=m->b<=d.size->2<=d.size->d.size<4611686018427387904->i<4611686018427387904->m<n->d.size<N->
 I0 N n (a:Int) (b:Int) (i:Int) d.toList=some (insOuter olt a b i d).toList:=by
 intro m
 induction m with
 |zero=>
  intro i n d hm hb h2 hs hi hn hN;obtain⟨n,rfl⟩:∃m,n=m+1:=⟨n - 1,by omega⟩
  grind [I0,insOuter]
 |succ m ih=>
  intro i n d hm hb h2 hs hi hn hN;obtain⟨n,rfl⟩:∃m,n=m+1:=⟨n - 1,by omega⟩;have e:(decide ((i:Int)<(b:Int)))=true:=Zz (by omega);rw [I0,e,jT,T3 N _ hi i N d (by omega) h2 hs (by omega),insOuter,Zt (by omega)];exact ih (i+1) n _ (by omega) (by grind [Kv]) (by grind [Kv]) (by grind [Kv]) (by omega) (by omega) (by grind [Kv])
theorem xGi(N:Nat){a b:Nat}{d:Array Org}(hab:a<=b)(hb:b<=d.size)(h2:2<=d.size)(hs:d.size<1152921504606846976)(hN:d.size<N):
 MZ N (a:Int) (b:Int) d.toList=some (insertionSort olt d a b).toList:=by
 unfold MZ insertionSort;rw [wn (a+1) (by omega) (by omega)];exact xGh N _ _ N d rfl hb h2 (by omega) (by omega) (by omega) hN
theorem xId(N:Nat){hi first:Nat}(x:Int):∀(m root n:Nat) (d:Array Org),hi - root=m->root<=hi->first+hi<=d.size->2<=d.size->d.size<1152921504606846976->m<n->
 FW N n (hi:Int) (first:Int) (root:Int) d.toList=some (siftDown olt hi first root d).toList/\(siftDown olt hi first root d).size=d.size:=by
 intro m
 induction m using Nat.strongRecOn with
 |_ m ih=>
  intro root n d hm hr hf h2 hs hn;obtain⟨n,rfl⟩:∃m,n=m+1:=⟨n - 1,by omega⟩;have w1:i64.wrap (i64.wrap (2*(root:Int))+1)=((2*root+1:Nat):Int):=by
   have e:i64.wrap (2*(root:Int))=((2*root:Nat):Int):=wn _ (by omega) (by omega);rw [e];exact wn _ (by omega) (by omega)
  have w2:i64.wrap (((2*root+1:Nat):Int)+1)=((2*root+2:Nat):Int):=wn _ (by omega) (by omega);rw [FW,siftDown,w1,w2];by_cases hc:2*root+1>=hi
  ·grind
  ·have e:(decide (((2*root+1:Nat):Int)>=(hi:Int)))=false:=Zw (by omega);rw [e,jF,dif_neg hc];have w3:i64.wrap ((first:Int)+((2*root+1:Nat):Int))=((first+(2*root+1):Nat):Int):=wn _ (by omega) (by omega);have w4:i64.wrap (((first+(2*root+1):Nat):Int)+1)=((first+(2*root+1)+1:Nat):Int):=wn _ (by omega) (by omega);have w5:i64.wrap ((first:Int)+(root:Int))=((first+root:Nat):Int):=wn _ (by omega) (by omega);rw [w3,w4,w5]
   have one:∀(c:Nat),c<hi->root<c->(Option.bind (BR N ((first+root:Nat):Int) ((first+c:Nat):Int) d.toList) fun r2=>
    bif(!r2.1) then some r2.2 else
     Option.bind (Av N ((first+root:Nat):Int) ((first+c:Nat):Int) r2.2) fun r3=>
     if 2<=List.length r2.2 then
     if List.length r3=List.length r2.2 then
     (FW N n (hi:Int) (first:Int) (c:Int) r3)
     else none
     else none)=some (if !olt d[first+root]! d[first+c]! then d else siftDown olt hi first c (swp d (first+root) (first+c))).toList/\
    (if !olt d[first+root]! d[first+c]! then d else siftDown olt hi first c (swp d (first+root) (first+c))).size=d.size:=by
    intro c hc1 hc2;rw [CZ N rfl rfl (by omega) (by omega)];dsimp only;cases hl:olt d[first+root]! d[first+c]! with
    |false=>grind
    |true=>
     have:=ih (hi - c) (by omega) c n (swp d (first+root) (first+c)) rfl (by omega) (by grind [A0]) (by grind [A0]) (by grind [A0]) (by omega);rw [jU,jF,Bg N rfl rfl (by omega) (by omega) h2]
     grind [A0]
   by_cases hd:2*root+1+1<hi
   ·have e:(decide (((2*root+2:Nat):Int)<(hi:Int)))=true:=Zz (by omega);have w6:i64.wrap ((first:Int)+((2*root+2:Nat):Int))=((first+(2*root+2):Nat):Int):=wn _ (by omega) (by omega);rw [e,jT,CZ N rfl rfl (by omega) (by omega),w6];dsimp only;cases hl:olt d[first+(2*root+1)]! d[first+(2*root+1)+1]! with
    |true=>
     rw [jT];have:=one (2*root+2) (by omega) (by omega)
     simp_all
    |false=>
     grind
   grind
theorem Ug(N:Nat){hi first root:Nat}{d:Array Org}(hr:root<=hi)(hf:first+hi<=d.size)(h2:2<=d.size)(hs:d.size<1152921504606846976)(hN:d.size<N):
 If N (root:Int) (hi:Int) (first:Int) d.toList=some (siftDown olt hi first root d).toList/\(siftDown olt hi first root d).size=d.size:=by
 unfold If;exact xId N 0 _ root N d rfl hr hf h2 hs (by omega)
theorem Sj(N:Nat){first:Nat}(z:Int):∀(k n:Nat) (d:Array Org),first+k<=d.size->2<=d.size->d.size<1152921504606846976->k<n->d.size<N->
 IZ N n (first:Int) 0 ((k:Int) - 1) d.toList=some (heapPop olt first k d).toList
 |0,n,d,hf,h2,hs,hn,hN=>by
  obtain⟨n,rfl⟩:∃m,n=m+1:=⟨n - 1,by omega⟩;have e:(decide (((0:Nat):Int) - 1>=0))=false:=Zw (by omega);rw [IZ,e,jF]
  rfl
 |k+1,n,d,hf,h2,hs,hn,hN=>by
  obtain⟨n,rfl⟩:∃m,n=m+1:=⟨n - 1,by omega⟩;have e:(decide (((k+1:Nat):Int) - 1>=0))=true:=Zz (by omega);have e1:((k+1:Nat):Int) - 1=(k:Int):=by omega
  have w:i64.wrap ((first:Int)+(k:Int))=((first+k:Nat):Int):=wn _ (by omega) (by omega);have w2:i64.wrap ((k:Int) - 1)=(k:Int) - 1:=Af (by omega) (by omega);rw [IZ,e,jT,e1,w,Bg N rfl rfl (by omega) (by omega) h2,w2];obtain⟨s1,s2⟩:=Ug N (hi:=k) (first:=first) (root:=0) (d:=swp d first (first+k)) (by omega) (by grind [A0]) (by grind [A0]) (by grind [A0]) (by grind [A0]);have s1:If N 0 (k:Int) (first:Int) (swp d first (first+k)).toList=_:=s1;rw [s1,heapPop];exact Sj N z k n _ (by grind [A0]) (by grind [A0]) (by grind [A0]) (by omega) (by grind [A0])
theorem Si(N:Nat){first hi:Nat}:∀(k n:Nat) (d:Array Org),k<=hi+1->first+hi<=d.size->2<=d.size->d.size<1152921504606846976->k<n->d.size<N->
 IY N n (first:Int) 0 (hi:Int) ((k:Int) - 1) d.toList=some (heapPop olt first hi (heapBuild olt hi first k d)).toList
 |0,n,d,hk,hf,h2,hs,hn,hN=>by
  obtain⟨n,rfl⟩:∃m,n=m+1:=⟨n - 1,by omega⟩;have e:(decide (((0:Nat):Int) - 1>=0))=false:=Zw (by omega);have w2:i64.wrap ((hi:Int) - 1)=(hi:Int) - 1:=Af (by omega) (by omega);rw [IY,e,jF,w2];exact Sj N 0 hi N d hf h2 hs (by omega) hN
 |k+1,n,d,hk,hf,h2,hs,hn,hN=>by
  obtain⟨n,rfl⟩:∃m,n=m+1:=⟨n - 1,by omega⟩;have e:(decide (((k+1:Nat):Int) - 1>=0))=true:=Zz (by omega);have e1:((k+1:Nat):Int) - 1=(k:Int):=by omega
  have w2:i64.wrap ((k:Int) - 1)=(k:Int) - 1:=Af (by omega) (by omega);rw [IY,e,jT,e1,w2];obtain⟨s1,s2⟩:=Ug N (hi:=hi) (first:=first) (root:=k) (d:=d) (by omega) hf h2 hs hN;rw [s1,heapBuild];exact Si N k n _ (by omega) (by grind) (by grind) (by grind) (by omega) (by grind)
theorem xEC(N:Nat){a b:Nat}{d:Array Org}(hab:a<b)(hb:b<=d.size)(h2:2<=d.size)(hs:d.size<1152921504606846976)(hN:d.size+1<N):
 MY N (a:Int) (b:Int) d.toList=some (heapSort olt d a b).toList:=by
 unfold MY heapSort;have w1:i64.wrap ((b:Int) - (a:Int))=((b - a:Nat):Int):=wn _ (by omega) (by omega);have w2:i64.wrap (((b - a:Nat):Int) - 1)=((b - a - 1:Nat):Int):=wn _ (by omega) (by omega);have w3:i64.wrap (Int.tdiv ((b - a - 1:Nat):Int) 2)=(((b - a - 1) / 2+1:Nat):Int) - 1:=by
  have:Int.tdiv ((b - a - 1:Nat):Int) 2=(((b - a - 1) / 2:Nat):Int):=rfl;rw [this,wn ((b - a - 1) / 2) rfl (by omega)];omega
 rw [w1,w2,w3];exact Si N _ N d (by omega) (by omega) h2 hs (by omega) (by omega)
theorem xHP(N:Nat):∀(m i j n:Nat) (d:Array Org),j - i<=m->i<d.size->j<d.size->2<=d.size->d.size<1152921504606846976->m<n->
 Ie N n (i:Int) (j:Int) d.toList=some (reverseLoop i j d).toList:=by
 intro m
 induction m with
 |zero=>
  intro i j n d hm hi hj h2 hs hn;obtain⟨n,rfl⟩:∃m,n=m+1:=⟨n - 1,by omega⟩
  grind [Ie,reverseLoop]
 |succ m ih=>
  intro i j n d hm hi hj h2 hs hn;obtain⟨n,rfl⟩:∃m,n=m+1:=⟨n - 1,by omega⟩;rw [Ie,reverseLoop];by_cases h:i<j
  ·have e:(decide ((i:Int)<(j:Int)))=true:=Zz (by omega);have w1:i64.wrap ((i:Int)+1)=((i+1:Nat):Int):=wn _ (by omega) (by omega);have w2:i64.wrap ((j:Int) - 1)=((j - 1:Nat):Int):=wn _ (by omega) (by omega);rw [e,jT,Bg N rfl rfl hi hj h2,Zt h,w1,w2];exact ih (i+1) (j - 1) n _ (by omega) (by grind [A0]) (by grind [A0]) (by grind [A0]) (by grind [A0]) (by omega)
  grind
theorem xHQ(N:Nat){a b:Nat}{d:Array Org}(hab:a<b)(hb:b<=d.size)(h2:2<=d.size)(hs:d.size<1152921504606846976)(hN:d.size<N):
 M5 N (a:Int) (b:Int) d.toList=some (reverseRange d a b).toList:=by
 unfold M5 reverseRange;have w2:i64.wrap ((b:Int) - 1)=((b - 1:Nat):Int):=wn _ (by omega) (by omega);rw [w2];exact xHP N _ a (b - 1) N d (Zn _) (by omega) (by omega) h2 hs (by omega)
theorem KU{p:Org->Bool}{d:Array Org}{j i:Nat}(h:i<=j)(hp:p d[i]! =true):scanUp p d j i=scanUp p d j (i+1):=by
 grind [scanUp]
theorem FQ{p:Org->Bool}{d:Array Org}{j i:Nat}(h:¬(i<=j/\p d[i]! =true)):scanUp p d j i=i:=by
 grind [scanUp]
theorem KS{p:Org->Bool}{d:Array Org}{j i:Nat}(h:i<=j+1)(hp:p d[j+1]! =true):scanDown p d i (j+1)=scanDown p d i j:=by
 grind [scanDown]
theorem FP{p:Org->Bool}{d:Array Org}{j i:Nat}(h:¬(i<=j+1/\p d[j+1]! =true)):scanDown p d i (j+1)=j+1:=by
 grind [scanDown]
abbrev pUp(d:Array Org)(a:Nat):Org->Bool:=fun x=>olt x d[a]!
abbrev pDn(d:Array Org)(a:Nat):Org->Bool:=fun x=> !olt x d[a]!
theorem xH6{p:Org->Bool}{d:Array Org}:∀(m i j:Nat),j+1 - i=m->i<=j+1->i<=scanUp p d j i/\scanUp p d j i<=j+1:=by
 intro m
 induction m with
 |zero=>grind [FQ]
 |succ m ih=>
  intro i j hm hi;by_cases h:i<=j/\p d[i]! =true
  ·rw [KU h.1 h.2]
   grind
  grind [FQ]
theorem MT{p:Org->Bool}{d:Array Org}{i:Nat}(hi:0<i):∀(j:Nat),i<=j+1->i<=scanDown p d i j+1/\scanDown p d i j<=j
 |0,h=>by grind [scanDown]
 |j+1,h=>by
  by_cases h2:i<=j+1/\p d[j+1]! =true
  ·rw [KS h2.1 h2.2];have:=MT (p:=p) (d:=d) hi j (by omega);omega
  grind [FP]
theorem MU{p:Org->Bool}{d:Array Org}{i:Nat}(hi:0<i):∀(j:Nat),i<=j+1->i<=scanDown p d i j->p d[scanDown p d i j]! =false
 |0,h,h3=>by grind [scanDown]
 |j+1,h,h3=>by
  by_cases h2:i<=j+1/\p d[j+1]! =true
  ·rw [KS h2.1 h2.2] at h3 ⊢;exact MU hi j (by omega) h3
  grind [FP]
theorem xH7{p:Org->Bool}{d:Array Org}:∀(m i j:Nat),j+1 - i=m->scanUp p d j i<=j->p d[scanUp p d j i]! =false:=by
 intro m
 induction m with
 |zero=>grind [FQ]
 |succ m ih=>
  grind [KU,FQ]
theorem UL(N:Nat)(k:Int->Int->Int->List Org->Option (Int×Bool×List Org)){a i:Nat}:∀(j n:Nat) (d:Array Org),a<i->i<=j+1->j<d.size->2<=d.size->d.size<1152921504606846976->j<n->
 FU N k n (a:Int) (i:Int) (j:Int) d.toList=
  (if i>scanDown (pDn d a) d i j then some (((scanDown (pDn d a) d i j:Nat):Int),false,(swp d (scanDown (pDn d a) d i j) a).toList)
   else k (a:Int) ((i+1:Nat):Int) ((scanDown (pDn d a) d i j - 1:Nat):Int) (swp d i (scanDown (pDn d a) d i j)).toList)
 |0,n,d,ha,hij,hj,h2,hs,hn=>by
  obtain⟨n,rfl⟩:∃m,n=m+1:=⟨n - 1,by omega⟩;have e:(decide ((i:Int)<=((0:Nat):Int)))=false:=Zw (by omega);have e2:(decide ((i:Int)>((0:Nat):Int)))=true:=Zz (by omega);rw [FU,e,jF,e2,jT,Bg N rfl rfl hj (by omega) h2,scanDown,Zt (by omega)]
 |j+1,n,d,ha,hij,hj,h2,hs,hn=>by
  obtain⟨n,rfl⟩:∃m,n=m+1:=⟨n - 1,by omega⟩;have wi:i64.wrap ((i:Int)+1)=((i+1:Nat):Int):=wn _ (by omega) (by omega);have wj:i64.wrap (((j+1:Nat):Int) - 1)=((j:Nat):Int):=wn _ (by omega) (by omega);rw [FU,wi,wj];by_cases h:i<=j+1
  ·have e:(decide ((i:Int)<=((j+1:Nat):Int)))=true:=Zz (by omega);have e2:(decide ((i:Int)>((j+1:Nat):Int)))=false:=Zw (by omega);rw [e,jT,CZ N rfl rfl hj (by omega),e2,jF];dsimp only;cases hl:olt d[j+1]! d[a]! with
   |false=>
    rw [jV,jT,UL N k j n d ha (by omega) (by omega) h2 hs (by omega),KS (p:=pDn d a) h (by grind)]
   |true=>
    rw [jU,jF,Bg N rfl rfl (by omega) hj h2,FP (p:=pDn d a) (by grind),Za (by omega)]
    rfl
  ·have e:(decide ((i:Int)<=((j+1:Nat):Int)))=false:=Zw (by omega);have e2:(decide ((i:Int)>((j+1:Nat):Int)))=true:=Zz (by omega);rw [e,jF,e2,jT,Bg N rfl rfl hj (by omega) h2,FP (p:=pDn d a) (by omega),Zt (by omega)]
theorem xHv(N:Nat){a:Nat}:∀(m i j n:Nat) (d:Array Org),j+1 - i=m->a<i->i<=j+1->j<d.size->2<=d.size->d.size<1152921504606846976->m<n->d.size<N->
 D9 N n (a:Int) (i:Int) (j:Int) d.toList=some (((partLoop olt a i j d).1:Int),false,(swp (partLoop olt a i j d).2 (partLoop olt a i j d).1 a).toList):=by
 intro m
 induction m using Nat.strongRecOn with
 |_ m ih=>
  intro i j n d hm ha hij hj h2 hs hn hN;obtain⟨n,rfl⟩:∃m,n=m+1:=⟨n - 1,by omega⟩;have wi:i64.wrap ((i:Int)+1)=((i+1:Nat):Int):=wn _ (by omega) (by omega);rw [D9,wi]
  have stop:∀(hc:¬(i<=j/\pUp d a d[i]! =true)),FU N (fun z0 z1 z2 z3=>(D9 N n z0 z1 z2 z3)) N (a:Int) (i:Int) (j:Int) d.toList=
   some (((partLoop olt a i j d).1:Int),false,(swp (partLoop olt a i j d).2 (partLoop olt a i j d).1 a).toList):=by
   intro hc;rw [UL N _ j N d ha hij hj h2 hs (by omega),partLoop_eq,FQ (p:=pUp d a) hc];have hb:=MT (p:=pDn d a) (d:=d) (by omega:0<i) j hij;split
   ·rfl
   ·rename_i hg;have hne:i≠scanDown (pDn d a) d i j:=by
     grind [MU]
    exact ih (scanDown (pDn d a) d i j - 1+1 - (i+1)) (by omega) (i+1) (scanDown (pDn d a) d i j - 1) n _ rfl (by omega) (by omega) (by grind [A0]) (by grind [A0]) (by grind [A0]) (by omega) (by grind [A0])
  by_cases h:i<=j
  ·have e:(decide ((i:Int)<=(j:Int)))=true:=Zz (by omega);rw [e,jT,CZ N rfl rfl (by omega) (by omega)];dsimp only;cases hl:olt d[i]! d[a]! with
   |true=>
    rw [jT,ih (m - 1) (by omega) (i+1) j n d (by omega) (by omega) (by omega) hj h2 hs (by omega) hN]
    grind [partLoop_eq,KU]
   |false=>grind
  grind
theorem UM(N:Nat){a i:Nat}:∀(j n:Nat) (d:Array Org),a<i->i<=j+1->j<d.size->2<=d.size->d.size<1152921504606846976->j<n->
 FV N n (a:Int) (i:Int) (j:Int) d.toList=
  (if i>scanDown (pDn d a) d i j then some (((scanDown (pDn d a) d i j:Nat):Int),true,(swp d (scanDown (pDn d a) d i j) a).toList)
   else D9 N N (a:Int) ((i+1:Nat):Int) ((scanDown (pDn d a) d i j - 1:Nat):Int) (swp d i (scanDown (pDn d a) d i j)).toList)
 |0,n,d,ha,hij,hj,h2,hs,hn=>by
  obtain⟨n,rfl⟩:∃m,n=m+1:=⟨n - 1,by omega⟩;have e:(decide ((i:Int)<=((0:Nat):Int)))=false:=Zw (by omega);have e2:(decide ((i:Int)>((0:Nat):Int)))=true:=Zz (by omega);rw [FV,e,jF,e2,jT,Bg N rfl rfl hj (by omega) h2,scanDown,Zt (by omega)]
 |j+1,n,d,ha,hij,hj,h2,hs,hn=>by
  obtain⟨n,rfl⟩:∃m,n=m+1:=⟨n - 1,by omega⟩;have wi:i64.wrap ((i:Int)+1)=((i+1:Nat):Int):=wn _ (by omega) (by omega);have wj:i64.wrap (((j+1:Nat):Int) - 1)=((j:Nat):Int):=wn _ (by omega) (by omega);rw [FV,wi,wj];by_cases h:i<=j+1
  ·have e:(decide ((i:Int)<=((j+1:Nat):Int)))=true:=Zz (by omega);have e2:(decide ((i:Int)>((j+1:Nat):Int)))=false:=Zw (by omega);rw [e,jT,CZ N rfl rfl hj (by omega),e2,jF];dsimp only;cases hl:olt d[j+1]! d[a]! with
   |false=>
    rw [jV,jT,UM N j n d ha (by omega) (by omega) h2 hs (by omega),KS (p:=pDn d a) h (by grind)]
   |true=>
    rw [jU,jF,Bg N rfl rfl (by omega) hj h2,FP (p:=pDn d a) (by grind),Za (by omega)]
    rfl
  ·have e:(decide ((i:Int)<=((j+1:Nat):Int)))=false:=Zw (by omega);have e2:(decide ((i:Int)>((j+1:Nat):Int)))=true:=Zz (by omega);rw [e,jF,e2,jT,Bg N rfl rfl hj (by omega) h2,FP (p:=pDn d a) (by omega),Zt (by omega)]
theorem xHw(N:Nat){a j:Nat}:∀(m i n:Nat) (d:Array Org),j+1 - i=m->a<i->i<=j+1->j<d.size->2<=d.size->d.size<1152921504606846976->m<n->d.size<N->
 Ia N n (a:Int) (i:Int) (j:Int) d.toList=FV N N (a:Int) ((scanUp (pUp d a) d j i:Nat):Int) (j:Int) d.toList:=by
 intro m
 induction m with
 |zero=>
  intro i n d hm ha hij hj h2 hs hn hN;obtain⟨n,rfl⟩:∃m,n=m+1:=⟨n - 1,by omega⟩
  grind [Ia,FQ]
 |succ m ih=>
  intro i n d hm ha hij hj h2 hs hn hN;obtain⟨n,rfl⟩:∃m,n=m+1:=⟨n - 1,by omega⟩;have wi:i64.wrap ((i:Int)+1)=((i+1:Nat):Int):=wn _ (by omega) (by omega);have e:(decide ((i:Int)<=(j:Int)))=true:=Zz (by omega);rw [Ia,wi,e,jT,CZ N rfl rfl (by omega) (by omega)];dsimp only;cases hl:olt d[i]! d[a]! with
  |true=>rw [jT,ih (i+1) n d (by omega) (by omega) (by omega) hj h2 hs (by omega) hN,KU (p:=pUp d a) (i:=i) (j:=j) (by omega) (by grind)]
  |false=>grind [FQ]
theorem xHx(N:Nat){a b pivot:Nat}{d:Array Org}(hp1:a<=pivot)(hp2:pivot<b)(hb:b<=d.size)(hab:a+1<b)(h2:2<=d.size)(hs:d.size<1152921504606846976)(hN:d.size<N):
 M4 N (a:Int) (b:Int) (pivot:Int) d.toList=some (((partition olt d a b pivot).1:Int),(partition olt d a b pivot).2.1,(partition olt d a b pivot).2.2.toList):=by
 have wa:i64.wrap ((a:Int)+1)=((a+1:Nat):Int):=wn _ (by omega) (by omega);have wb:i64.wrap ((b:Int) - 1)=((b - 1:Nat):Int):=wn _ (by omega) (by omega);have hs1:(swp d a pivot).size=d.size:=A0;unfold M4 partition;rw [Bg N rfl rfl (by omega) (by omega) h2,wa,wb];generalize swp d a pivot=d1 at hs1;have hu:=xH6 (p:=pUp d1 a) (d:=d1) _ (a+1) (b - 1) rfl (by omega);rw [xHw N _ (a+1) N d1 rfl (by omega) (by omega) (by omega) (by omega) (by omega) (by omega) (by omega),UM N (b - 1) N d1 (by omega) (by omega) (by omega) (by omega) (by omega) (by omega)];have hd:=MT (p:=pDn d1 a) (d:=d1) (i:=scanUp (pUp d1 a) d1 (b - 1) (a+1)) (by omega) (b - 1) (by omega);dsimp only;by_cases hc:scanUp (pUp d1 a) d1 (b - 1) (a+1)>scanDown (pDn d1 a) d1 (scanUp (pUp d1 a) d1 (b - 1) (a+1)) (b - 1)
 ·grind
 ·have hne:scanUp (pUp d1 a) d1 (b - 1) (a+1)≠scanDown (pDn d1 a) d1 (scanUp (pUp d1 a) d1 (b - 1) (a+1)) (b - 1):=by
   intro e;have h1:=MU (p:=pDn d1 a) (d:=d1) (i:=scanUp (pUp d1 a) d1 (b - 1) (a+1)) (by omega) (b - 1) (by omega) (by omega);rw [<-e] at h1;have h2:=xH7 (p:=pUp d1 a) (d:=d1) _ (a+1) (b - 1) rfl (by omega)
   grind
  rw [Za hc,Za hc];exact xHv N _ _ _ N _ rfl (by omega) (by omega) (by grind [A0]) (by grind [A0]) (by grind [A0]) (by omega) (by grind [A0])
end Go.Ab
end
