/- A layer over the machine of the kit: an evaluator over plain data that is sound. Conditions: none. -/
import Derived.Below
import Derived.Calls
import Derived.Carry
import Derived.ChangeArms
import Derived.ChangeKeysEq
import Derived.Great.BuildSlice
import Derived.KernelRfl
import Derived.Laws.BytesString
import Derived.Laws.Cells
import Derived.Laws.Entries
import Derived.Laws.Externs
import Derived.Laws.IdiomCopy
import Derived.Laws.MakeOwn
import Derived.Laws.OwnMore
import Derived.Laws.Sem
import Derived.Laws.Strings
import Derived.Laws.Tables
import Derived.Laws.World
import Derived.Lib.AtoiAll
import Derived.Lib.BitFns
import Derived.Lib.Bytealg
import Derived.Lib.ItoaNum
import Derived.Lib.Join
import Derived.Lib.ReflectliteSwap
import Derived.Lib.SplitLaws
import Derived.Lib.Strings
import Derived.OpenShut
import Derived.Orders
import Derived.ProofKit
import Derived.Sort.Defs
import Derived.Sort.EncStr
import Derived.Sort.Grow
import Derived.Tactics
import GoSem.Core.Code
import GoSem.Core.Machine
import GoSem.Core.Region
import GoSem.Core.View
import GoSem.Core.World
import GoSem.Dispatch
import GoSem.Machine.Frame
import GoSem.Op.String
set_option linter.all false
section
def Zz:=@decide_eq_true
def Zy:=@decide_eq_false
def Zx:=@List.getElem?_eq_getElem
def Zw:=@if_pos
def Zv:=@Bool.and_eq_true
def Zu:=@List.all_eq_true
def Zt:=@List.getElem?_eq_some_iff
def Zs:=@List.mem_of_getElem?
def Zr:=@List.length_map
def Zq:=@List.mem_cons_of_mem
def Zp:=@List.mem_cons_self
def Zo:=@List.mem_cons
def Zn:=@List.getElem?_map
def Zm:=@Option.bind_eq_some_iff
def Zl:=@Nat.eq_of_beq_eq_true
def Zk:=@List.mem_map
def Zj:=@Nat.zero_add
def Zi:=@Nat.le_refl
def Zh:=@List.mem_singleton
def Zg:=@Array.getElem?_eq_some_iff
def Zf:=@if_neg
def Ze:=@List.getElem?_append_left
def Zd:=@congrArg
def Zc:=@List.append_assoc
def Zb:=@List.append_nil
def Za:=@List.mem_append
def Z9:=@Nat.zero_le
def Z8:=@Option.map_eq_some_iff
def Z7:=@List.getElem_map
def Z6:=@decide_false
def Z5:=@Int.lt_irrefl
def Z4:=@List.getElem_mem
def Z3:=@List.getElem?_append_right
def Z2:=@List.not_mem_nil
def Z1:=@decide_eq_true_eq
def Z0:=@List.length_eq_zero_iff
def ZZ:=@List.contains_iff_mem
def ZY:=@Array.getElem?_toList
def ZX:=@List.map_cons
def ZW:=@List.getD_eq_getElem?_getD
def ZV:=@beq_eq_false_iff_ne
def ZU:=@Array.getElem?_push
def ZT:=@List.length_take
def ZS:=@List.pairwise_cons
def ZR:=@Bool.or_eq_false_iff
def ZQ:=@Bool.false_and
def ZP:=@List.getElem?_eq_none
def ZO:=@List.map_congr_left
def ZN:=@Bool.true_and
def ZM:=@Nat.add_mul
def ZL:=@Option.some.injEq
def ZK:=@List.take_length
def ZJ:=@Nat.mul_le_mul_right
def ZI:=@List.mem_of_mem_take
def ZH:=@List.mem_append_left
def ZG:=@Nat.lt_or_ge
def ZF:=@Nat.le_trans
def ZE:=@Bool.false_or
def ZD:=@Bool.not_eq_true'
def ZC:=@Nat.lt_of_lt_of_le
def ZB:=@if_true
def ZA:=@Int.toNat_of_nonneg
def Yz:=@Option.some.inj
def Yy:=@List.drop_eq_getElem_cons
def Yx:=@List.length_drop
def Yw:=@List.isEmpty_iff
def Yv:=@Array.getD_eq_getD_getElem?
def Yu:=@Nat.add_sub_cancel_left
def Yt:=@Nat.add_assoc
def Ys:=@List.map_nil
def Yr:=@Array.getElem?_eq_none
def Yq:=@List.nodup_append
def Yp:=@List.mem_iff_getElem?
def Yo:=@Array.getElem?_modify
def Yn:=@List.nodup_cons
def Ym:=@beq_self_eq_true
def Yl:=@List.take_succ_eq_append_getElem
def Yk:=@List.pairwise_iff_getElem
def Yj:=@List.mem_append_right
def Yi:=@Nat.le_add_right
def Yh:=@List.drop_length
def Yg:=@Bool.false_eq_true
def Yf:=@List.mem_range
def Ye:=@List.mem_of_mem_drop
def Yd:=@List.getElem?_set_ne
def Yc:=@List.getElem?_of_mem
def Yb:=@List.map_map
def Ya:=@Bool.or_false
def Y9:=@Bool.and_true
def Y8:=@List.any_eq_true
def Y7:=@List.getElem?_drop
def Y6:=@List.cons.injEq
def Y5:=@List.foldl_append
def Y4:=@List.getElem?_take_of_lt
def Y3:=@Array.ext'
def Y0:=@List.getD_cons_zero
def YZ:=@List.getElem?_set_self
def YY:=@Nat.not_lt_zero
def YX:=@List.mem_filter
def YW:=@Bool.or_eq_true
def YV:=@Bool.eq_iff_iff
def YU:=@Array.getElem?_setIfInBounds
def YT:=@Prod.mk.injEq
def YS:=@Classical.choose_spec
def YR:=@List.append_cancel_left_eq
def YQ:=@Bool.and_false
def YP:=@List.mem_flatMap
def YO:=@Bool.or_comm
def YN:=@Array.toList_map
def YM:=@Classical.byContradiction
def YL:=@List.getElem?_take
def YK:=@List.contains_cons
def YJ:=@Nat.one_mul
def YI:=@bne_self_eq_false
def YH:=@Nat.mul_le_mul
def YG:=@List.length_mergeSort
def YF:=@List.getElem_set_self
def YE:=@List.getElem?_toArray
def YD:=@List.map_append
def YC:=@Array.size_push
def YB:=@List.getElem?_range
def YA:=@List.filter_sublist
def Xz:=@Bool.or_true
def Xy:=@List.nodup_iff_pairwise_ne
def Xx:=@List.mem_mergeSort
def Xw:=@List.drop_zero
def Xv:=@Int.natCast_nonneg
def Xu:=@List.mem_take_iff_getElem
def Xt:=@List.mem_or_eq_of_mem_set
def Xs:=@List.getElem?_zip_eq_some
def Xr:=@List.getElem?_eq_none_iff
def Xq:=@Array.getElem?_eq_getElem
def Xp:=@List.map_id
def Xo:=@List.any_eq_false
def Xn:=@Array.size_setIfInBounds
def Xm:=@List.mem_reverse
def Xl:=@List.filter_cons
def Xk:=@Nat.mod_lt
def Xj:=@List.take_of_length_le
def Xi:=@Nat.div_add_mod
def Xh:=@List.length_set
def Xg:=@Nat.le_of_ble_eq_true
def Xf:=@List.length_filter_le
def Xe:=@List.nodup_nil
def Xd:=@List.takeWhile_cons
def Xc:=@List.mergeSort_perm
def Xb:=@List.getElem_set_ne
def Xa:=@List.getD_cons_succ
def X9:=@Nat.add_sub_cancel
def X8:=@Nat.zero_mul
def X7:=@Nat.mul_comm
def X6:=@Nat.lt_trichotomy
def X5:=@Nat.beq_refl
def X4:=@Nat.add_comm
def X3:=@List.take_add_one
def X2:=@List.size_toArray
def X1:=@List.length_range
def X0:=@List.all_eq_false
def XZ:=@Bool.true_or
def XY:=@Nat.mod_eq_of_lt
def XX:=@Nat.le_of_not_lt
def XW:=@List.eq_nil_iff_forall_not_mem
def XV:=@List.cons_ne_nil
def XU:=@List.eq_nil_of_length_eq_zero
def XT:=@Int.le_refl
def XS:=@Prod.ext
def XR:=@Nat.eq_of_mul_eq_mul_right
def XQ:=@Nat.blt_eq
def XP:=@Nat.add_mul_mod_self_right
def XO:=@List.drop_drop
def XN:=@Array.getElem?_append_left
def XM:=@Nat.eq_of_mul_eq_mul_left
def XL:=@List.getElem_append_right
def XK:=@List.length_erase_of_mem
def XJ:=@List.pairwise_mergeSort
def XI:=@Int.eq_ofNat_of_zero_le
def XH:=@Nat.sub_self
def XG:=@Nat.le_of_eq
def XF:=@List.length_pos_of_mem
def XE:=@List.drop_eq_nil_of_le
end
section
theorem jF {α : Type _} {a b : α} : cond false a b = b := rfl
theorem jT {α : Type _} {a b : α} : cond true a b = a := rfl
theorem jS {α : Type _} {β : Type _} (a : α) (f : α -> Option β) : Option.bind (some a) f = f a := rfl
theorem jL {a b : Nat} (h : Nat.ble a b = true) : a <= b := Xg h
theorem jA {α : Type _} {a b : List α} : (a ++ b).length = a.length + b.length := List.length_append
theorem jC {α : Type _} {a : α} {b : List α} : (a :: b).length = b.length + 1 := rfl
theorem jN {α : Type _} : ([] : List α).length = 0 := rfl
theorem jI (n : Nat) : Int.toNat (n : Int) = n := rfl
theorem jE {α : Type _} : ([] : List α).isEmpty = true := rfl
theorem jU : (!true) = false := rfl
theorem jV : (!false) = true := rfl
theorem jM {α : Type _} (a : List α) : [] ++ a = a := rfl
theorem jO {α : Type _} {a : α} {b c : List α} : (a :: b) ++ c = a :: (b ++ c) := rfl
theorem jG {α : Type _} {a b : α} : (some a).getD b = a := rfl
end
section
namespace Go.Ab
abbrev Str:=List UInt8
structure Org where
 cell:Int
 row:Int
 deriving DecidableEq,Inhabited
structure Rowd where
 cells:List Int
 frm:List Org
 deriving DecidableEq,Inhabited
inductive Val where
 |mk (kind n step:Int) (text:Str) (list:List Val) (columns:List Str) (rows:List Rowd)
inductive Exp where
 |mk (kind n:Int) (text:Str) (args:List Exp)
structure Fil where
 name:Str
 n:Int
 deriving DecidableEq,Inhabited
structure Tok where
 kind:Int
 n:Int
 pos:Int
 text:Str
 deriving DecidableEq,Inhabited
structure Cel where
 id:Int
 version:Int
 kind:Int
 name:Str
 code:Str
 n:Int
 deriving DecidableEq,Inhabited
namespace Val
def kind:Val->Int|mk k _ _ _ _ _ _=>k
def n:Val->Int|mk _ n _ _ _ _ _=>n
def step:Val->Int|mk _ _ s _ _ _ _=>s
def text:Val->Str|mk _ _ _ t _ _ _=>t
def list:Val->List Val|mk _ _ _ _ l _ _=>l
def columns:Val->List Str|mk _ _ _ _ _ c _=>c
def rows:Val->List Rowd|mk _ _ _ _ _ _ r=>r
def zero:Val:=mk 0 0 0 [] [] [] []
instance:Inhabited Val:=⟨zero⟩
theorem eta(v:Val):mk v.kind v.n v.step v.text v.list v.columns v.rows=v:=by cases v;rfl
end Val
namespace Exp
def kind:Exp->Int|mk k _ _ _=>k
def n:Exp->Int|mk _ n _ _=>n
def text:Exp->Str|mk _ _ t _=>t
def args:Exp->List Exp|mk _ _ _ a=>a
def zero:Exp:=mk 0 0 [] []
instance:Inhabited Exp:=⟨zero⟩
theorem eta(v:Exp):mk v.kind v.n v.text v.args=v:=by cases v;rfl
end Exp
structure Rea where
 kind:Int
 n:Int
 time:Int
 text:Str
 result:Val
 deriving Inhabited
structure Bnd where
 name:Str
 value:Val
 deriving Inhabited
inductive Ty where
 |int|byte|str|org|row|val|exp|fil|tok|rea|bnd|cel
 deriving DecidableEq
@[reducible] def Ty.den:Ty->Type
  | .int=>Int| .byte=>Int| .str=>Str| .org=>Org| .row=>Rowd| .val=>Val| .exp=>Exp| .fil=>Fil| .tok=>Tok| .rea=>Rea| .bnd=>Bnd| .cel=>Cel
def Ty.dflt:(T:Ty)->T.den
 | .int=>(0:Int) | .byte=>(0:Int) | .str=>([]:Str) | .org=>(⟨0,0⟩:Org) | .row=>(⟨[],[]⟩:Rowd) | .val=>Val.zero| .exp=>Exp.zero
 | .fil=>(⟨[],0⟩:Fil) | .tok=>(⟨0,0,0,[]⟩:Tok) | .rea=>(⟨0,0,0,[],Val.zero⟩:Rea) | .bnd=>(⟨[],Val.zero⟩:Bnd) | .cel=>(⟨0,0,0,[],[],0⟩:Cel)
def Ty.sz:Ty->Nat
 | .int=>1| .byte=>1| .str=>1| .org=>2| .row=>2| .val=>7| .exp=>4| .fil=>2| .tok=>4| .rea=>11| .bnd=>8| .cel=>6
def Ty.flat:Ty->Bool
 | .row| .val| .exp| .rea| .bnd=>false
 |_=>true
inductive Fl where
 |ro|bor|own|tip
 |lnt (n:Nat)
 |al (k c:Nat) (p:List (Nat×Nat))
 deriving DecidableEq
inductive CV where
 |int (k:IntKind) (n:Int)
 |bool (b:Bool)
 |str (s:Str)
 |sl (f:Fl) (T:Ty) (xs:List T.den)
 |ptr (s off:Nat)
 |clo (k:Nat) (ss:List Nat)
 |swp (sf n:Nat) (h:Value) (s:Nat)
 |eptr (f:Fl) (T:Ty) (x:T.den) (off:Nat)
 |eref (k c:Nat) (p:List (Nat×Nat)) (i:Nat) (T:Ty) (x:T.den) (off:Nat)
 |apd (k c:Nat) (p:List (Nat×Nat)) (T:Ty) (xs:List T.den)
 |val (v:Value)
 |undef
inductive AV where
 |v (agg:Bool) (cs:List CV)
 |tup (xs:List (Bool×List CV))
 |none
abbrev AV.int(k:IntKind)(n:Int):AV:= .v false [.int k n]
abbrev AV.bool(b:Bool):AV:= .v false [.bool b]
abbrev AV.str(s:Str):AV:= .v false [.str s]
def Ty.enc(f:Fl):(T:Ty)->T.den->List CV
 | .int,n=> [.int .i64 n]
 | .byte,n=> [.int .u8 n]
 | .str,s=> [.str s]
 | .org,o=> [.int .i64 (Org.cell o),.int .i64 (Org.row o)]
 | .row,r=> [.sl f .int (Rowd.cells r),.sl f .org (Rowd.frm r)]
 | .val,v=> [.int .i64 (Val.kind v),.int .i64 (Val.n v),.int .i64 (Val.step v),.str (Val.text v),.sl f .val (Val.list v),.sl f .str (Val.columns v),.sl f .row (Val.rows v)]
 | .exp,e=> [.int .i64 (Exp.kind e),.int .i64 (Exp.n e),.str (Exp.text e),.sl f .exp (Exp.args e)]
 | .fil,x=> [.str (Fil.name x),.int .i64 (Fil.n x)]
 | .tok,t=> [.int .i64 (Tok.kind t),.int .i64 (Tok.n t),.int .i64 (Tok.pos t),.str (Tok.text t)]
 | .rea,r=> [.int .i64 (Rea.kind r),.int .i64 (Rea.n r),.int .i64 (Rea.time r),.str (Rea.text r),
     .int .i64 (Val.kind (Rea.result r)),.int .i64 (Val.n (Rea.result r)),.int .i64 (Val.step (Rea.result r)),.str (Val.text (Rea.result r)),.sl f .val (Val.list (Rea.result r)),.sl f .str (Val.columns (Rea.result r)),.sl f .row (Val.rows (Rea.result r))]
 | .bnd,b=> [.str (Bnd.name b),
     .int .i64 (Val.kind (Bnd.value b)),.int .i64 (Val.n (Bnd.value b)),.int .i64 (Val.step (Bnd.value b)),.str (Val.text (Bnd.value b)),.sl f .val (Val.list (Bnd.value b)),.sl f .str (Val.columns (Bnd.value b)),.sl f .row (Val.rows (Bnd.value b))]
 | .cel,c=> [.int .i64 (Cel.id c),.int .i64 (Cel.version c),.int .i64 (Cel.kind c),.str (Cel.name c),.str (Cel.code c),.int .i64 (Cel.n c)]
def Ty.dec:(T:Ty)->List CV->Option T.den
 | .int,[.int .i64 n]=>some n
 | .byte,[.int .u8 n]=>some n
 | .str,[.str s]=>some s
 | .org,[.int .i64 a,.int .i64 b]=>some ⟨a,b⟩
 | .row,[.sl _ .int a,.sl _ .org b]=>some ⟨a,b⟩
 | .val,[.int .i64 k,.int .i64 n,.int .i64 s,.str t,.sl _ .val l,.sl _ .str c,.sl _ .row r]=>some (.mk k n s t l c r)
 | .exp,[.int .i64 k,.int .i64 n,.str t,.sl _ .exp a]=>some (.mk k n t a)
 | .fil,[.str s,.int .i64 n]=>some ⟨s,n⟩
 | .tok,[.int .i64 k,.int .i64 n,.int .i64 p,.str t]=>some ⟨k,n,p,t⟩
 | .rea,[.int .i64 k,.int .i64 n,.int .i64 t,.str x,.int .i64 k',.int .i64 n',.int .i64 s,.str t',.sl _ .val l,.sl _ .str c,.sl _ .row r]=>some ⟨k,n,t,x,.mk k' n' s t' l c r⟩
 | .bnd,[.str x,.int .i64 k',.int .i64 n',.int .i64 s,.str t',.sl _ .val l,.sl _ .str c,.sl _ .row r]=>some ⟨x,.mk k' n' s t' l c r⟩
 | .cel,[.int .i64 a,.int .i64 b,.int .i64 c,.str d,.str e,.int .i64 n]=>some ⟨a,b,c,d,e,n⟩
 |_,_=>none
def CV.isBor:CV->Bool
 | .sl .bor _ _=>true
 | .eptr .bor _ _ _=>true
 | .apd _ _ _ _ _=>true
 |_=>false
def CV.onKey(ks:List Nat):CV->Bool
 | .sl (.al k _ _) _ _=>ks.contains k
 | .eref k _ _ _ _ _ _=>ks.contains k
 | .apd k _ _ _ _=>ks.contains k
 |_=>false
def AV.mapC(f:CV->CV):AV->AV
 | .v g cs=> .v g (cs.map f)
 | .tup xs=> .tup (xs.map fun x=>(x.1,x.2.map f))
 | .none=> .none
def aB:Nat:=1000000
def CV.stale(seen:List Nat)(m:Bool)(c:CV):CV:=cond (c.onKey seen||(m&&c.isBor)) .undef c
abbrev St:=List (Nat×AV)
def St.getS:St->Nat->List Nat->Bool->AV
 | [],_,_,_=> .none
 |(k,v)::r,q,seen,m=>cond (k.beq q) (v.mapC (CV.stale seen m)) (St.getS r q (k::seen) (m||k.beq aB))
def St.get(σ:St)(q:Nat):AV:=St.getS σ q [] false
def gR:St->Nat->List Nat->Bool->AV ⊕ (List Nat×Bool)
 | [],_,seen,m=> .inr (seen,m)
 |(k,v)::r,q,seen,m=>cond (k.beq q) (.inl (v.mapC (CV.stale seen m))) (gR r q (k::seen) (m||k.beq aB))
structure TI where
 sz:Nat:=1
 agg:Bool:=false
 zero:Option (List CV):=none
 offs:List Nat:=[]
 fsz:List Nat:=[]
 elem:Option (Nat×Ty):=none
 bytes:Nat:=8
 same:Bool:=false
 ik:Option IntKind:=none
 isStr:Bool:=false
 isBool:Bool:=false
 isFn:Bool:=false
abbrev TT:=List (Nat×TI)
def TT.get:TT->Nat->Option TI
 | [],_=>none
 |(k,v)::r,q=>cond (k.beq q) (some v) (TT.get r q)
end Go.Ab
end
section
namespace Go.Ab
def Lim:Nat:=274877906944
def CV.cp:CV->CV
 | .sl .own T xs=> .sl .bor T xs
 | .sl .tip T xs=> .sl .bor T xs
 | .sl (.lnt _) T xs=> .sl .bor T xs
 | .apd _ _ _ _ _=> .undef
 |c=>c
def CV.left:CV->CV
 | .sl .own _ _=> .undef
 | .sl .tip _ _=> .undef
 | .sl (.lnt _) _ _=> .undef
 | .apd _ _ _ _ _=> .undef
 |c=>c
def CV.noAl:CV->CV
 | .sl (.al _ _ _) _ _=> .undef
 | .eref _ _ _ _ _ _ _=> .undef
 | .apd _ _ _ _ _=> .undef
 |c=>c
def CV.plain:CV->Bool
 | .int _ _=>true
 | .bool _=>true
 | .str _=>true
 | .sl .ro _ _=>true
 | .sl .own _ _=>true
 | .sl .tip _ _=>true
 | .val _=>true
 |_=>false
def AV.plain:AV->Bool
 | .v _ cs=>cs.all CV.plain
 | .tup xs=>xs.all fun x=>x.2.all CV.plain
 | .none=>false
def CV.alias(k c:Nat)(p:List (Nat×Nat)):CV->CV
 | .sl .own T xs=> .sl (.al k c p) T xs
 | .sl (.lnt _) T xs=> .sl (.al k c p) T xs
 | .sl .tip T xs=> .sl .bor T xs
 | .apd _ _ _ _ _=> .undef
 |x=>x
def cF(k:Nat):Nat->List CV->List CV
 |_,[]=> []
 |c,x::r=>x.alias k c []::cF k (c+1) r
def dO(k c:Nat)(p:List (Nat×Nat))(i:Nat):Nat->List CV->List CV
 |_,[]=> []
 |j,x::r=>x.alias k c (p++ [(i,j)])::dO k c p i (j+1) r
inductive Md where
 |cp|take|ref
 deriving DecidableEq
def CV.em:CV->CV
 | .sl .bor T []=> .sl .ro T []
 |c=>c
def CV.fz:CV->CV
 | .sl .own T xs=> .sl .ro T xs
 | .sl .tip T xs=> .sl .ro T xs
 | .sl (.lnt _) _ _=> .undef
 | .apd _ _ _ _ _=> .undef
 |c=>c
def gN(tt:TT)(ty:TypeId):Value->AV
 | .int k n=> .int k n
 | .bool b=> .bool b
 | .string s=> .str s.data.toList
 | .slice .none 0 0=>match tt.get ty with
   |some i=>match i.elem with
    |some (_,T)=> .v false [.sl .own T []]
    |none=> .none
   |none=> .none
 | .nilFunc=> .v false [.val .nilFunc]
 | .pointer none=> .v false [.val (.pointer none)]
 |_=> .none
inductive RT (α:Type) where
 |ret (a:α)
 |fail
 |rd (k:Nat) (f:AV->RT α)
def RT.bind{α β:Type}:RT α->(α->RT β)->RT β
 | .ret a,f=>f a
 | .fail,_=> .fail
 | .rd k g,f=> .rd k fun a=>(g a).bind f
def RT.run{α:Type}(g:Nat->AV):RT α->Option α
 | .ret a=>some a
 | .fail=>none
 | .rd k f=>(f (g k)).run g
def RT.log{α:Type}(g:Nat->AV):RT α->List Nat
 | .ret _=> []
 | .fail=> []
 | .rd k f=>k::(f (g k)).log g
abbrev Ups:=List (Nat×AV)
def aK{α:Type}:List (Nat×α)->Nat->Option α
 | [],_=>none
 |(k,v)::r,q=>cond (k.beq q) (some v) (aK r q)
def M(α:Type):Type:=Ups->RT (α×Ups)
def M.pure{α:Type}(a:α):M α:=fun u=> .ret (a,u)
def M.bind{α β:Type}(m:M α)(f:α->M β):M β:=fun u=>(m u).bind fun x=>f x.1 x.2
instance:Monad M where
 pure:=M.pure
 bind:=M.bind
def bad{α:Type}:M α:=fun _=> .fail
def cA(k:Nat):M AV:=fun u=>match gR u k [] false with
 | .inl a=> .ret (a,u)
 | .inr (seen,m)=> .rd k fun a=> .ret (a.mapC (CV.stale seen m),u)
def bI(k:Nat)(a:AV):M Unit:=fun u=> .ret ((),(k,a)::u)
def ofO{α:Type}:Option α->M α
 |some a=>M.pure a
 |none=>bad
def rdK(md:Md)(k:Nat):M AV:=
 (cA k).bind fun a=>match md with
 | .cp=>M.pure (a.mapC CV.cp)
 | .take=>(bI k ((a.mapC (CV.stale [k] false)).mapC CV.left)).bind fun _=>M.pure (a.mapC (CV.stale [k] false))
 | .ref=>match a with
   | .v g cs=>M.pure (.v g (cF k 0 cs))
   |_=>bad
def opd(tt:TT)(md:Md)(ty:TypeId)(x:Operand):M AV:=
 match x with
 | .tmp t=>rdK md (2*t)
 | .const v=>M.pure (gN tt ty v)
 | .func f=>M.pure (.v false [.val (.func (.func f) #[] #[])])
 | .global _=>bad
def fP:AV->M CV
 | .v false [c]=>M.pure c
 |_=>bad
def opc(tt:TT)(ty:TypeId)(x:Operand):M CV:=(opd tt .cp ty x).bind fP
def cZ(s:Nat):M (List CV):=(cA (2*s+1)).bind fun a=>match a with
 | .v true cs=>M.pure cs
 |_=>bad
def kD(tt:TT)(ty:TypeId)(x:Operand):M (List CV):=(opd tt .take ty x).bind fun a=>match a with
 | .v _ cs=>M.pure (cs.map CV.noAl)
 |_=>bad
def mD(tt:TT)(ty:TypeId)(x:Operand):M (List CV):=(opd tt .take ty x).bind fun a=>match a with
 | .v _ cs=>M.pure cs
 |_=>bad
def b9{α:Type}:List α->Nat->List α->Option (List α)
 |l,0,vs=>if vs.length<=l.length then some (vs++l.drop vs.length) else none
 |x::l,n+1,vs=>(b9 l n vs).map (x:: ·)
 | [],_+1,_=>none
def c9:List CV->Option Fl
 | []=>some .own
 | .sl .own _ _::r=>c9 r
 | .sl .ro _ _::r=>(c9 r).map fun _=> .ro
 | .sl .tip _ _::r=>(c9 r).map fun _=> .ro
 | .int _ _::r=>c9 r
 | .bool _::r=>c9 r
 | .str _::r=>c9 r
 |_=>none
def bR:List CV->List CV->Option Bool
 | [.int _ a],[.int _ b]=>some (a==b)
 | [.str a],[.str b]=>some (a==b)
 | [.bool a],[.bool b]=>some (a==b)
 | .int _ a::r,.int _ b::r' =>(bR r r').map ((a==b)&& ·)
 | .str a::r,.str b::r' =>(bR r r').map ((a==b)&& ·)
 | .bool a::r,.bool b::r' =>(bR r r').map ((a==b)&& ·)
 |_,_=>none
def bP:List CV->List CV->Bool
 | [],[]=>true
 | .int k _::r,.int k' _::r' =>decide (k=k')&&bP r r'
 | .str _::r,.str _::r' =>bP r r'
 | .bool _::r,.bool _::r' =>bP r r'
 |_,_=>false
def fT:Option (List CV)->List CV->Bool
 |some z,as=>bP z as
 |none,_=>false
def rT(k:IntKind)(x y:Int):Int:=k.wrap (BitVec.ofInt k.bits x &&& BitVec.ofInt k.bits y).toNat
def zAc(k:IntKind)(x y:Int):Int:=k.wrap (BitVec.ofInt k.bits x ^^^ BitVec.ofInt k.bits y).toNat
def eK(op:BinOp)(a b:CV):Option (CV×List Prop):=
 match a,b with
 | .int k x,.int k' y=>
   match op with
   | .shl=>if k= .u64 then some (.int .u64 (IntKind.u64.wrap (x*2 ^ y.toNat)),[0<=y/\y<64]) else none
   | .shr=>if k= .i64\/k= .u64 then some (.int k (x.fdiv ((2:Int) ^ y.toNat)),[0<=y/\y<64]) else none
   |_=>if k=k' then match op with
    | .add=>some (.int k (k.wrap (x+y)),[])
    | .sub=>some (.int k (k.wrap (x - y)),[])
    | .mul=>some (.int k (k.wrap (x*y)),[])
    | .quo=>some (.int k (k.wrap (x.tdiv y)),[y≠0])
    | .rem=>some (.int k (x.tmod y),[y≠0])
    | .eql=>some (.bool (x==y),[])
    | .neq=>some (.bool (x != y),[])
    | .lss=>some (.bool (decide (x<y)),[])
    | .leq=>some (.bool (decide (x<=y)),[])
    | .gtr=>some (.bool (decide (x>y)),[])
    | .geq=>some (.bool (decide (x>=y)),[])
    | .and=>some (.int k (rT k x y),[])
    | .xor=>some (.int k (zAc k x y),[])
    |_=>none
    else none
 | .str x,.str y=>
   match op with
   | .add=>some (.str (x++y),[x.length+y.length<=Lim])
   | .eql=>some (.bool (x==y),[])
   | .neq=>some (.bool (!(x==y)),[])
   | .lss=>some (.bool (Op.bytesLess x y),[])
   | .leq=>some (.bool (Op.bytesLess x y||x==y),[])
   | .gtr=>some (.bool (!(Op.bytesLess x y||x==y)),[])
   | .geq=>some (.bool (!Op.bytesLess x y),[])
   |_=>none
 |_,_=>none
structure CallO where
 res:AV
 outs:List (List CV):=[]
 lents:List CV:=[]
inductive Arg where
 |val (a:AV)
 |box (cs:List CV)
 |gbox (cs:List CV)
def gK(tt:TT):List Operand->List TypeId->M (List Arg×List Nat)
 | [],_=>M.pure ([],[])
 |x::xs,tys=>(gK tt xs (tys.drop 1)).bind fun p=>(opd tt .cp (tys.headD 0) x).bind fun a=>match a with
  | .v false [.ptr s 0]=>(cZ s).bind fun cs=>match p.2 with
    | []=>M.pure (.box cs::p.1,[s])
    |_=>bad
  | .v g cs=>M.pure (.val (.v g cs)::p.1,p.2)
  |_=>bad
def eA(own:Bool):List Nat->List (List CV)->M Unit
 | [],[]=>M.pure ()
 | [s],[cs]=>(cZ s).bind fun old=>cond (old.length.beq cs.length) ((bI (2*s+1) (.v true cs)).bind fun _=>cond own (bI aB .none) (M.pure ())) bad
 |_,_=>bad
def CV.toRo:CV->CV
 | .sl (.al _ _ _) T xs=> .sl .ro T xs
 | .sl .bor T xs=> .sl .ro T xs
 | .sl .own T []=> .sl .ro T []
 | .sl .own _ _=> .undef
 | .sl .tip _ _=> .undef
 | .sl (.lnt _) _ _=> .undef
 | .eref _ _ _ _ _ _ _=> .undef
 | .eptr _ _ _ _=> .undef
 | .ptr _ _=> .undef
 | .clo _ _=> .undef
 | .swp _ _ _ _=> .undef
 | .apd _ _ _ _ _=> .undef
 |c=>c
def CV.toBx:CV->CV
 | .sl .bor T xs=> .sl .ro T xs
 | .sl (.al _ _ _) _ _=> .undef
 | .sl (.lnt _) _ _=> .undef
 | .eref _ _ _ _ _ _ _=> .undef
 | .eptr _ _ _ _=> .undef
 | .ptr _ _=> .undef
 | .clo _ _=> .undef
 | .swp _ _ _ _=> .undef
 | .apd _ _ _ _ _=> .undef
 |c=>c
def Arg.toRo:Arg->Arg
 | .val a=> .val (a.mapC CV.toRo)
 | .box cs=> .box (cs.map CV.toBx)
 | .gbox cs=> .gbox (cs.map CV.toBx)
def CV.isBorAl:CV->Bool
 | .sl .bor _ _=>true
 | .sl (.al _ _ _) _ _=>true
 |_=>false
def aL:List Arg->Bool
 | []=>false
 | .val (.v _ cs)::r=>cs.any CV.isBorAl||aL r
 | .val _::_=>true
 | .box cs::r=>cs.any CV.isBorAl||aL r
 | .gbox cs::r=>cs.any CV.isBorAl||aL r
def CV.isOwn:CV->Bool
 | .sl .own _ _=>true
 | .sl .tip _ _=>true
 | .sl (.lnt _) _ _=>true
 |_=>false
def cG:List Arg->Bool
 | []=>false
 | .val _::r=>cG r
 | .box cs::r=>cs.any CV.isOwn||cG r
 | .gbox cs::r=>cs.any CV.isOwn||cG r
abbrev aH:=Nat×Nat×List (Nat×Nat)×Ty
def aM:Nat->List CV->List CV×List aH
 |_,[]=>([],[])
 |n,.sl (.al k c p) T xs::r=>(.sl (.lnt n) T xs::(aM (n+1) r).1,(k,c,p,T)::(aM (n+1) r).2)
 |n,x::r=>(x.toRo::(aM n r).1,(aM n r).2)
def aP:Nat->List Arg->List Arg×List aH
 |_,[]=>([],[])
 |n,.val (.v g cs)::r=>(.val (.v g (aM n cs).1)::(aP (n+(aM n cs).2.length) r).1,(aM n cs).2++(aP (n+(aM n cs).2.length) r).2)
 |n,x::r=>(x.toRo::(aP n r).1,(aP n r).2)
def AV.nbox:AV->Option (List CV)
 | .tup [(false,[.ptr _ _]),(true,cs)]=>Option.some cs
 |_=>Option.none
def CV.rob:CV->CV
 | .sl .ro T xs=> .sl .bor T xs
 | .sl .tip T xs=> .sl .bor T xs
 |c=>c
def eV(tt:TT)(ty:TypeId)(place:Nat->Option (Nat×Nat)):List (Nat×Operand)->List CV->M (List CV)
 | [],cs=>M.pure cs
 |(i,x)::r,cs=>(kD tt ty x).bind fun vs=>match place i with
  |some (p,n)=>cond (vs.length.beq n) ((ofO (b9 cs p vs)).bind fun cs' =>eV tt ty place r cs') bad
  |none=>bad
def eE(T:Ty):Nat->List CV->Option (List T.den×Fl)
 |0,[]=>some ([],.own)
 |n+1,cs=>match T.dec (cs.take T.sz),c9 (cs.take T.sz),eE T n (cs.drop T.sz) with
  |some x,some f,some (xs,f')=>some (x::xs,if f= .own then f' else .ro)
  |_,_,_=>none
 |_,_=>none
abbrev Eff:=AV×List Prop
def kR(a b:CV):Option (CV×List Prop):=
 match a,b with
 | .sl f T xs,.sl g U ys=>
   if h:U=T then
    if f= .own\/f= .tip then
     if T.flat then some (.sl .own T (xs++h ▸ ys),[xs.length+ys.length<=Lim])
     else if g= .ro\/g= .own\/g= .tip then some (.sl (if f= .own/\g= .own then .own else .tip) T (xs++h ▸ ys),[xs.length+ys.length<=Lim])
     else none
    else none
   else none
 | .sl f .byte xs,.str ys=>if f= .own\/f= .tip then some (.sl .own .byte (xs++ys.map fun c=>(c.toNat:Int)),[xs.length+ys.length<=Lim]) else none
 |_,_=>none
def kQ(a b:CV):Option (CV×List Prop):=
 match a,b with
 | .sl (.al k c p) T xs,.sl _ U ys=>if h:U=T then cond T.flat (some (.apd k c p T (xs++h ▸ ys),[xs.length+ys.length<=Lim])) none else none
 |_,_=>none
def Fl.part:Fl->Fl
 | .ro=> .ro
 |_=> .bor
def mN(c:CV)(lo hi:Option CV):Option (CV×List Prop):=
 match c,lo,hi with
 | .str s,some (.int _ l),some (.int _ h)=>some (.str ((s.take h.toNat).drop l.toNat),[0<=l/\l<=h/\h<=s.length])
 | .str s,some (.int _ l),none=>some (.str (s.drop l.toNat),[0<=l/\l<=s.length])
 | .str s,none,some (.int _ h)=>some (.str (s.take h.toNat),[0<=h/\h<=s.length])
 | .str s,none,none=>some (.str s,[])
 | .sl f T xs,some (.int _ l),some (.int _ h)=>some (.sl f.part T ((xs.take h.toNat).drop l.toNat),[0<=l/\l<=h/\h<=xs.length])
 | .sl f T xs,some (.int _ l),none=>some (.sl f.part T (xs.drop l.toNat),[0<=l/\l<=xs.length])
 | .sl f T xs,none,some (.int _ h)=>some (.sl f.part T (xs.take h.toNat),[0<=h/\h<=xs.length])
 | .sl f T xs,none,none=>some (.sl f.part T xs,[])
 |_,_,_=>none
def fE:List (Nat×Bool)->Nat->Option Bool
 | [],_=>none
 |(k,b)::r,q=>cond (k.beq q) (some b) (fE r q)
section
variable (tt:TT) (con:FuncId->List Arg->CallO->Prop)
def bU(a:AV):M Eff:=M.pure (a,[])
def aG(a:CV)(ob:List Prop:=[]):M Eff:=M.pure (.v false [a],ob)
def lS(md:Md)(i:TI)(s off:Nat):M Eff:=(cZ s).bind fun cs=>cond ((off+i.sz).ble cs.length)
 (match md with
   | .cp=>bU (.v i.agg (((cs.drop off).take i.sz).map CV.cp))
   | .take=>(ofO (b9 (cs.map CV.noAl) off ((((cs.map CV.noAl).drop off).take i.sz).map CV.left))).bind fun new=>(bI (2*s+1) (.v true new)).bind fun _=>bU (.v i.agg (((cs.map CV.noAl).drop off).take i.sz))
   | .ref=>bU (.v i.agg (((cF (2*s+1) 0 cs).drop off).take i.sz))) bad
def qP(s off:Nat)(vs:List CV):M Eff:=(cZ s).bind fun cs=>(ofO (b9 (cs.map CV.noAl) off vs)).bind fun cs' =>(bI (2*s+1) (.v true cs')).bind fun _=>bU .none
def cV:CV->List (Nat×Nat)->(CV->Option CV)->Option CV
 |x,[],f=>f x
 | .sl fl T xs,(i,j)::p,f=>
   match(T.enc .own (xs.getD i T.dflt))[j]? with
   |some y=>match cV y p f with
    |some y' =>match T.dec ((T.enc .own (xs.getD i T.dflt)).set j y') with
     |some x' =>some (.sl fl T (xs.set i x'))
     |none=>none
    |none=>none
   |none=>none
 |_,_::_,_=>none
def eG(T:Ty)(i off:Nat)(vs:List CV):CV->Option CV
 | .sl fl U xs=>if U=T then match c9 vs,b9 (U.enc .own (xs.getD i U.dflt)) off vs with
   |some .own,some row=>match U.dec row with
    |some x' =>some (.sl fl U (xs.set i x'))
    |none=>none
   |_,_=>none
   else none
 |_=>none
def kF(U:Ty)(y:CV):CV->Option (CV×Prop)
 | .sl fl T xs=>match y with
   | .sl _ V ys=>if h:V=T then cond (decide (U=T)) (some (.sl fl T (h ▸ ys),ys.length=xs.length)) none else none
   |_=>none
 |_=>none
def CV.mutable:CV->Bool
 | .sl .own _ _=>true
 | .sl (.lnt _) _ _=>true
 |_=>false
def mS(k c:Nat)(p:List (Nat×Nat))(f:CV->Option CV):M Unit:=(cA k).bind fun a=>match a with
 | .v g cs=>(ofO (cs[c]?)).bind fun x=>cond x.mutable ((ofO (cV x p f)).bind fun x' =>bI k (.v g ((cs.map (CV.stale [k] false)).set c x'))) bad
 |_=>bad
def eI(k:Nat):List aH->List CV->List CV->Option (List CV×List Prop)
 | [],[],cs=>some (cs,[])
 |(k',c,[],U)::L,y::ys,cs=>cond (k'.beq k) (match cs[c]? with
  |some x=>cond x.mutable (match kF U y x with
   |some (x',p)=>match eI k L ys (cs.set c x') with
    |some (cs',ps)=>some (cs',p::ps)
    |none=>none
   |none=>none) none
  |none=>none) none
 |_,_,_=>none
def dL(k c i:Nat):List aH->List CV->List CV->Option (List CV×List Prop)
 | [],[],cs=>some (cs,[])
 |(k',c',[(i',j)],U)::L,y::ys,cs=>cond (k'.beq k&&c'.beq c) (match cs[j]? with
  |some x=>match kF U y x with
   |some (x',p)=>match dL k c i L ys (cs.set j x') with
    |some (cs',ps)=>some (cs',(i' =i)::p::ps)
    |none=>none
   |none=>none
  |none=>none) none
 |_,_,_=>none
def aR:List Nat->Bool
 | []=>true
 |x::r=> !r.contains x&&aR r
def oW:List aH->List CV->List CV->Option (List CV×List Prop)
 |(k,c,[],U)::L,ys,cs=>cond (aR (((k,c,[],U)::L).map fun z=>z.2.1)) (eI k ((k,c,[],U)::L) ys cs) none
 |(k,c,[(i,j)],U)::L,ys,cs=>cond (aR (((k,c,[(i,j)],U)::L).map fun z=>(z.2.2.1.headD (0,0)).2)) (match cs[c]? with
  |some (.sl f T xs)=>cond (CV.mutable (.sl f T xs)) (match dL k c i ((k,c,[(i,j)],U)::L) ys (T.enc .own (xs.getD i T.dflt)) with
   |some (row,ps)=>match T.dec row with
    |some x' =>some (cs.set c (.sl f T (xs.set i x')),ps)
    |none=>none
   |none=>none) none
  |_=>none) none
 |_,_,_=>none
def gW(L:List aH)(ys:List CV):M (List Prop):=
 match L with
 |z::L' =>(cA z.1).bind fun a=>match a with
  | .v g cs=>(ofO (oW (z::L') ys (cs.map (CV.stale [z.1] false)))).bind fun q=>(bI z.1 (.v g q.1)).bind fun _=>(bI aB .none).bind fun _=>M.pure q.2
  |_=>bad
 | []=>bad
def CallO.plain(r:CallO):Bool:=r.res.plain&&r.outs.all (·.all CV.plain)
def bT:List Arg->Bool
 | []=>false
 | .val (.v _ cs)::r=>cs.any CV.isBor||bT r
 |_::_=>true
def mE(f:FuncId)(r:CallO)(p:List Arg×List Nat):M Eff:=match r.lents with
 | []=>cond (aL p.1)
   (cond (cG p.1) bad ((eA false p.2 (r.outs.map (·.map CV.rob))).bind fun _=>M.pure (r.res.mapC CV.rob,[con f (p.1.map Arg.toRo) r])))
   ((eA (cG p.1) p.2 r.outs).bind fun _=>M.pure (r.res,[con f (p.1.map Arg.toRo) r]))
 |_=>bad
def kW(md:Md)(c:Call)(f:FuncId)(r:CallO):M Eff:=cond r.plain
 ((gK tt c.args.toList c.argTypes.toList).bind fun p=>match md with
   | .ref=>cond (aP 0 p.1).2.isEmpty (mE con f r p) (match p.2,r.outs with
     | [],[]=>cond (bT p.1) bad ((gW (aP 0 p.1).2 r.lents).bind fun ps=>M.pure (r.res,con f (aP 0 p.1).1 r::ps))
     |_,_=>bad)
   |_=>mE con f r p) bad
def CV.mvOk:CV->Bool
 | .int _ _=>true
 | .bool _=>true
 | .str _=>true
 | .val _=>true
 | .undef=>true
 | .sl .ro _ _=>true
 | .sl .own _ _=>true
 | .sl .tip _ _=>true
 |_=>false
def CV.isMv:CV->Bool
 | .sl .own _ _=>true
 | .sl .tip _ _=>true
 |_=>false
def AV.hasMv:AV->Bool
 | .v _ cs=>cs.any CV.isMv
 |_=>false
def AV.mvOk:AV->Bool
 | .v _ cs=>cs.all CV.mvOk
 |_=>false
def CV.toTip:CV->CV
 | .sl .own T xs=> .sl .tip T xs
 |c=>c
def o9(tt:TT)(ty:TypeId):Operand->M Bool
 | .tmp t=>(cA (2*t)).bind fun a=>M.pure a.hasMv
 | .const v=>M.pure (gN tt ty v).hasMv
 |_=>M.pure false
def lU(tt:TT):List Operand->List TypeId->M (List (Option AV))
 | [],_=>M.pure []
 |x::xs,tys=>(lU tt xs (tys.drop 1)).bind fun r=>(o9 tt (tys.headD 0) x).bind fun q=>
  cond q ((opd tt .take (tys.headD 0) x).bind fun b=>cond b.mvOk (M.pure (some (b.mapC CV.toTip)::r)) bad) (M.pure (none::r))
def c8:List Arg->List (Option AV)->List Arg
 |a::as,some b::ms=> .val b::c8 as ms
 |a::as,none::ms=>a.toRo::c8 as ms
 |as,_=>as.map Arg.toRo
def gY:List Arg->List (Option AV)->Bool
 | .box _::_,some _::_=>false
 |_::as,_::ms=>gY as ms
 |_,_=>true
def lV(c:Call)(f:FuncId)(r:CallO):M Eff:=
 (lU tt c.args.toList c.argTypes.toList).bind fun ms=>(gK tt c.args.toList c.argTypes.toList).bind fun p=>
   cond (ms.all Option.isNone) (mE con f r p) (cond (aL p.1|| !gY p.1 ms) bad (match r.lents with
    | []=>(eA false p.2 r.outs).bind fun _=>(bI aB .none).bind fun _=>M.pure (r.res,[con f (c8 p.1 ms) r])
    |_=>bad))
def nH(md:Md)(c:Call)(f:FuncId)(r:CallO):M Eff:=
 match md with
 | .take=>cond r.plain (lV tt con c f r) bad
 |_=>kW tt con md c f r
def gM(tt:TT):List Operand->List TypeId->M (List Arg×List (Option Nat))
 | [],_=>M.pure ([],[])
 |x::xs,tys=>(gM tt xs (tys.drop 1)).bind fun p=>(opd tt .cp (tys.headD 0) x).bind fun a=>match a with
  | .v false [.ptr s 0]=>(cZ s).bind fun cs=>M.pure (.box cs::p.1,some s::p.2)
  | .v g cs=>M.pure (.val (.v g cs)::p.1,none::p.2)
  |_=>bad
def kX:List Nat->M (List Arg×List (Option Nat))
 | []=>M.pure ([],[])
 |s::ss=>(kX ss).bind fun p=>(cZ s).bind fun cs=>M.pure (.box cs::p.1,some s::p.2)
def CV.caught:CV->List Nat
 | .clo _ ss=>ss
 | .swp _ _ _ s=> [s]
 |_=> []
def Arg.caught:Arg->List Nat
 | .val (.v _ cs)=>cs.flatMap CV.caught
 | .box cs=>cs.flatMap CV.caught
 |_=> []
def mX:List Nat->List Nat->List Nat
 |acc,[]=>acc
 |acc,s::r=>mX (cond (acc.contains s) acc (acc++ [s])) r
def dP:Nat->List (Option Nat)->List (Nat×Nat)
 |_,[]=> []
 |i,none::r=>dP (i+1) r
 |i,some s::r=>(s,i)::dP (i+1) r
def gi(i:Nat):Nat:=1000000+i
def fJ:Nat->List Nat->List (Nat×Nat)
 |_,[]=> []
 |i,s::r=>(s,gi i)::fJ (i+1) r
def lK:List Nat->M (List Arg)
 | []=>M.pure []
 |s::ss=>(lK ss).bind fun p=>(cZ s).bind fun cs=>M.pure (.gbox cs::p)
def eC(L:List (Nat×Nat)):List Nat->Option (List Nat)
 | []=>some []
 |s::r=>match aK L s,eC L r with
  |some i,some is=>some (i::is)
  |_,_=>none
def CV.ren(L:List (Nat×Nat)):CV->CV
 | .clo k ss=>match eC L ss with
   |some is=> .clo k is
   |none=> .undef
 | .swp sf n h s=>match aK L s with
   |some i=> .swp sf n h i
   |none=> .undef
 |c=>c
def CV.isClo:CV->Bool
 | .clo _ _=>true
 | .swp _ _ _ _=>true
 |_=>false
def CV.toRoC(L:List (Nat×Nat))(c:CV):CV:=cond c.isClo (c.ren L) c.toRo
def CV.toBxC(L:List (Nat×Nat))(c:CV):CV:=cond c.isClo (c.ren L) (match c with
 | .sl (.lnt n) T xs=> .sl (.lnt n) T xs
 |c=>c.toBx)
def Arg.toC(L:List (Nat×Nat)):Arg->Arg
 | .val a=> .val (a.mapC (CV.toRoC L))
 | .box cs=> .box (cs.map (CV.toBxC L))
 | .gbox cs=> .gbox (cs.map (CV.toBxC L))
def CV.plainC:CV->Bool
 | .sl (.lnt _) _ _=>true
 |c=>c.plain||c.isClo
def mF(L:List (Nat×Nat)):List Nat->List (List CV)->M Unit
 | [],[]=>M.pure ()
 |s::ss,o::os=>(mF L ss os).bind fun _=>bI (2*s+1) (.v true (o.map (CV.ren L)))
 |_,_=>bad
def eQ(L:List (Nat×Nat)):List (Nat×Nat):=L.map fun x=>(x.2,x.1)
def jQ(as:List Arg)(ks:List (Option Nat)):List Nat:=(mX (dP 0 ks).unzip.1 (as.flatMap Arg.caught)).drop (dP 0 ks).length
def lOf(as:List Arg)(ks:List (Option Nat)):List (Nat×Nat):=dP 0 ks++fJ as.length (jQ as ks)
def i7(f:FuncId)(r:CallO)(as:List Arg)(ks:List (Option Nat)):M Eff:=
 (lK (jQ as ks)).bind fun ga=>cond (aL (as++ga)|| !(r.res.plain&&r.outs.all (·.all CV.plainC)&&aR (lOf as ks).unzip.1&&aR (lOf as ks).unzip.2)) bad
   ((mF (eQ (lOf as ks)) (lOf as ks).unzip.1 r.outs).bind fun _=>(bI aB .none).bind fun _=>M.pure (r.res,[con f ((as++ga).map (Arg.toC (lOf as ks))) ⟨r.res,r.outs,[]⟩]))
def nP(c:Call)(f:FuncId)(r:CallO):M Eff:=(gM tt c.args.toList c.argTypes.toList).bind fun p=>i7 con f r p.1 p.2
def qT(f:FuncId)(r:CallO)(q:Prop)(as:List Arg):M Eff:=(gW (aP 0 as).2 r.lents).bind fun ps=>M.pure (r.res,con f (aP 0 as).1 ⟨r.res,[],r.lents⟩::q::ps)
def mP(c:Call)(t:Nat)(r:CallO):M Eff:=(cA (2*t)).bind fun a=>match a with
 | .v false [.clo k ss]=>(gM tt c.args.toList c.argTypes.toList).bind fun p=>(kX ss).bind fun q=>i7 con k r (p.1++q.1) (p.2++q.2)
 | .v false [.swp sf n h s]=>cond r.plain ((gM tt c.args.toList c.argTypes.toList).bind fun p=>(cZ s).bind fun cs=>match cs with
   | .sl (.lnt m) T xs::_=>cond (m.beq n&& !bT p.1) (qT con sf r (2<=xs.length) (p.1++ [.val (.v false [.sl (.al (2*s+1) 0 []) T xs]),.val (.v false [.val h])])) bad
   |_=>bad) bad
 |_=>bad
def l0(dst:Option Nat)(c:Call)(f:FuncId)(r:CallO)(cs:List CV):M Eff:=
 match dst,r.outs,r.lents with
 |some d,[],[]=>cond (cs.all CV.plain) ((gK tt c.args.toList c.argTypes.toList).bind fun p=>match p.2 with
  | []=>(cA (2*d+1)).bind fun a=>match a with
    | .none=>(bI (2*d+1) (.v true (cond (aL p.1) (cs.map CV.rob) cs))).bind fun _=>M.pure (.v false [.ptr d 0],[con f (p.1.map Arg.toRo) r])
    |_=>bad
  |_=>bad) bad
 |_,_,_=>bad
def jY(k c:Nat)(p:List (Nat×Nat))(i:Nat)(T:Ty)(off:Nat)(vs:List CV):M Eff:=
 (mS k c p (eG T i off vs)).bind fun _=>(bI aB .none).bind fun _=>bU .none
def lC(k c:Nat)(p:List (Nat×Nat))(i:Nat)(T:Ty)(off:Nat)(vs:List CV):M Eff:=
 match vs with
 | [.apd k' c' p' U xs]=>(jY k c p i T off [.sl .own U xs]).bind fun r=>M.pure (r.1,[k' =k/\c' =c/\p' =p++ [(i,off)]])
 |_=>jY k c p i T off (vs.map CV.noAl)
def TI.isSlice(i:TI):Bool:=match i.elem with |some _=>true|none=>false
def TI.isOf(i:TI)(T:Ty):Bool:=match i.elem with |some (_,U)=>decide (U=T) |none=>false
def oT(i:TI)(c:CV):M Eff:=
 match c with
 | .str s=>cond i.isStr (aG (.int .i64 (s.length:Int))) bad
 | .sl _ _ xs=>cond i.isSlice (aG (.int .i64 (xs.length:Int))) bad
 |_=>bad
def lQ(tt:TT)(t:TypeId)(x:Operand):M Eff:=match tt.get t with
 |some i=>(opc tt t x).bind fun c=>oT i c
 |none=>bad
def gH(i j:TI)(a b:CV):Bool:=
 (match a with | .sl _ T _=>i.isOf T|_=>false)&&(match b with | .sl _ _ _=>j.isSlice| .str _=>j.isStr|_=>false)
def nS(i j:TI)(c:CV):M Eff:=
 match c with
 | .int _ n=>match j.ik with
   |some k' =>aG (.int k' (k'.wrap n))
   |none=>bad
 | .sl _ .byte xs=>match i.elem with
   |some (_,.byte)=>cond j.isStr (aG (.str (xs.map fun n=>UInt8.ofNat n.toNat))) bad
   |_=>bad
 | .str s=>match j.elem with
   |some (_,.byte)=>cond i.isStr (aG (.sl .own .byte (s.map fun c=>(c.toNat:Int))) [s.length<=Lim]) bad
   |_=>bad
 |_=>bad
def fnNil:CV->CV->Option Bool
 | .clo _ _,.val .nilFunc=>some false
 | .val .nilFunc,.val .nilFunc=>some true
 |_,_=>none
def kV(op:BinOp)(t:TypeId)(a b:AV):M Eff:=
 match a,b with
 | .v false [.bool x],.v false [.bool y]=>match tt.get t with
   |some i=>cond i.isBool (match op with
    | .eql=>aG (.bool (x==y))
    | .neq=>aG (.bool (!(x==y)))
    |_=>bad) bad
   |none=>bad
 | .v false [a],.v false [b]=>match fnNil a b with
   |some r=>match tt.get t with
    |some i=>cond i.isFn (match op with
     | .eql=>aG (.bool r)
     | .neq=>aG (.bool (!r))
     |_=>bad) bad
    |none=>bad
   |none=>(ofO (eK op a b)).bind fun r=>aG r.1 r.2
 | .v true as,.v true bs=>match tt.get t,bR as bs with
   |some i,some r=>cond (i.same&&fT i.zero as&&fT i.zero bs) (match op with
    | .eql=>aG (.bool r)
    | .neq=>aG (.bool (!r))
    |_=>bad) bad
   |_,_=>bad
 |_,_=>bad
def fW(i:TI):CV->Bool
 | .str _=>i.isStr
 | .sl _ T _=>i.isOf T
 |_=>false
def kE(tt:TT):Option Operand->M (Option CV)
 |some y=>(opc tt 0 y).bind fun c=>M.pure (some c)
 |none=>M.pure none
def lM(a ix:CV):M Eff:=
 match a,ix with
 | .sl (.al k c p) T xs,.int _ i=>aG (.eref k c p i.toNat T (xs.getD i.toNat T.dflt) 0) [0<=i/\i<xs.length]
 | .sl .ro T xs,.int _ i=>aG (.eptr .ro T (xs.getD i.toNat T.dflt) 0) [0<=i/\i<xs.length]
 | .sl .bor T xs,.int _ i=>aG (.eptr .bor T (xs.getD i.toNat T.dflt) 0) [0<=i/\i<xs.length]
 |_,_=>bad
def iV:List Operand->M (List Nat)
 | []=>M.pure []
 |x::xs=>(opc tt 0 x).bind fun c=>match c with
  | .ptr s 0=>(iV xs).bind fun ss=>M.pure (s::ss)
  |_=>bad
def iA(md:Md)(o:Oper)(dc:List (Nat×Bool))(orc:Option CallO):M Eff:=
 match o.op with
 | .move x=>(opd tt md o.type x).bind bU
 | .assign x=>(opd tt .take o.type x).bind bU
 | .pick c a b=>match c with
   | .tmp t=>(cA (2*t)).bind fun y=>match y with
     | .v false [.bool _]=>match fE dc t with
       |some true=>(opd tt .take o.type a).bind bU
       |some false=>(opd tt .take o.type b).bind bU
       |none=>bad
     |_=>bad
   |_=>bad
 | .alloc t=>match tt.get t,o.dst with
   |some i,some d=>match i.zero with
    |some z=>(cA (2*d+1)).bind fun a=>match a with
     | .none=>(bI (2*d+1) (.v true z)).bind fun _=>aG (.ptr d 0)
     |_=>bad
    |none=>bad
   |_,_=>bad
 | .box t x=>match tt.get t,o.dst with
   |some _,some d=>(kD tt t x).bind fun cs=>(cA (2*d+1)).bind fun a=>match a with
    | .none=>(bI (2*d+1) (.v true cs)).bind fun _=>aG (.ptr d 0)
    |_=>bad
   |_,_=>bad
 | .build t ps=>match tt.get t with
   |some i=>match i.zero with
    |some z=>cond i.agg ((eV tt 0 (fun f=>match i.offs[f]?,i.fsz[f]? with |some p,some n=>some (p,n) |_,_=>none) ps.toList z).bind fun cs=>bU (.v true cs)) bad
    |none=>bad
   |none=>bad
 | .buildSlice t n ps=>match tt.get t with
   |some i=>match i.elem with
    |some (e,T)=>match tt.get e with
     |some _=>cond (n.ble 1000) ((eV tt e (fun k=>some (k*T.sz,T.sz)) ps.toList (List.replicate n (T.enc .own T.dflt)).flatten).bind fun cs=>
      (ofO (eE T n cs)).bind fun r=>aG (.sl (if r.2= .own then .own else .tip) T r.1)) bad
     |none=>bad
    |none=>bad
   |none=>bad
 | .load t a=>match tt.get t with
   |some i=>(opc tt 0 a).bind fun c=>match c with
    | .ptr s off=>lS md i s off
    | .eptr f T x off=>cond ((off+i.sz).ble T.sz) (bU (.v i.agg (((T.enc f x).drop off).take i.sz))) bad
    | .eref k c p n T x off=>cond ((off+i.sz).ble T.sz) (match md with
      | .cp=>bU (.v i.agg (((T.enc .bor x).drop off).take i.sz))
      | .ref=>bU (.v i.agg (((dO k c p n 0 (T.enc .own x)).drop off).take i.sz))
      |_=>bad) bad
    |_=>bad
   |none=>bad
 | .store t a x=>match tt.get t with
   |some i=>(mD tt t x).bind fun vs=>(opc tt 0 a).bind fun c=>cond (vs.length.beq i.sz) (match c with
    | .ptr s off=>qP s off (vs.map CV.noAl)
    | .eref k c p j T _ off=>lC k c p j T off vs
    |_=>bad) bad
   |none=>bad
 | .nilCheck x=>(opc tt o.type x).bind fun c=>match c with
   | .ptr s off=>aG (.ptr s off)
   |_=>bad
 | .makeFunc fn first caps=>match fn with
   | .func k=>cond first.toList.isEmpty ((iV tt caps.toList).bind fun ss=>aG (.clo k ss)) bad
   |_=>bad
 | .binOp op t x y _=>(opd tt .cp t x).bind fun a=>(opd tt .cp t y).bind fun b=>kV tt op t a b
 | .unOp op _ x=>(opc tt 0 x).bind fun c=>match op,c with
   | .not,.bool b=>aG (.bool (!b))
   | .neg,.int k n=>aG (.int k (k.wrap (0 - n)))
   |_,_=>bad
 | .convert s d x=>match tt.get s,tt.get d with
   |some i,some j=>(opc tt s x).bind fun c=>nS i j c
   |_,_=>bad
 | .makeSlice t l c=>match tt.get t with
   |some i=>match i.elem with
    |some (_,T)=>(opc tt 0 l).bind fun a=>(opc tt 0 c).bind fun b=>match a,b with
     | .int .i64 n,.int .i64 m=>aG (.sl .own T (List.replicate n.toNat T.dflt)) [0<=n/\n=m/\n<=Lim]
     |_,_=>bad
    |none=>bad
   |none=>bad
 | .slice t x lo hi mx=>match mx,tt.get t with
   |none,some i=>match md with
    | .take=>match lo,hi with
      |none,some y=>(opd tt .take t x).bind fun p=>(fP p).bind fun c=>(opc tt 0 y).bind fun h=>cond (fW i c) (match c,h with
       | .sl .own T xs,.int _ n=>cond T.flat ((bI aB .none).bind fun _=>aG (.sl .own T (xs.take n.toNat)) [0<=n/\n<=xs.length]) bad
       |_,_=>bad) bad
      |_,_=>bad
    |_=>(opc tt t x).bind fun c=>(kE tt lo).bind fun l=>(kE tt hi).bind fun h=>cond (fW i c) ((ofO (mN c l h)).bind fun r=>aG r.1 r.2) bad
   |_,_=>bad
 | .fieldAddr t x f=>match tt.get t with
   |some i=>match i.offs[f]? with
    |some p=>(opc tt 0 x).bind fun c=>match c with
     | .ptr s off=>aG (.ptr s (off+p))
     | .eptr g T y off=>aG (.eptr g T y (off+p))
     | .eref k c q j T y off=>aG (.eref k c q j T y (off+p))
     |_=>bad
    |none=>bad
   |none=>bad
 | .indexAddr t x ix=>match tt.get t with
   |some i=>(opc tt t x).bind fun a=>(opc tt 0 ix).bind fun b=>cond (fW i a) (lM a b) bad
   |none=>bad
 | .index t x ix=>match tt.get t with
   |some j=>cond j.isStr ((opc tt 0 x).bind fun a=>(opc tt 0 ix).bind fun b=>match a,b with
    | .str s,.int _ i=>aG (.int .u8 ((s.getD i.toNat 0).toNat:Int)) [0<=i/\i<s.length]
    |_,_=>bad) bad
   |none=>bad
 | .extract x i=>match x with
   | .tmp t=>(cA (2*t)).bind fun a=>match a with
     | .tup ys=>match md with
       | .ref=>match ys[i]? with
         |some x=>bU (.v x.1 (x.2.map CV.cp))
         |none=>bad
       |_=>
        let xs:=ys.map fun x=>(x.1,x.2.map CV.noAl)
        match xs[i]? with
        |some x=>(bI (2*t) (.tup (xs.set i (x.1,x.2.map CV.left)))).bind fun _=>bU (.v x.1 x.2)
        |none=>bad
     |_=>bad
   |_=>bad
 | .call c=>match c.callee with
   | .builtin .len=>match c.args.toList,c.argTypes.toList with
     | [x],[t]=>lQ tt t x
     |_,_=>bad
   | .builtin .append=>match c.args.toList,c.argTypes.toList with
     | [x,y],[t0,t1]=>match tt.get t0,tt.get t1 with
       |some i,some j=>(opd tt .take t0 x).bind fun p=>(fP p).bind fun a=>(opd tt (match md with | .take=> .take|_=> .cp) t1 y).bind fun q=>(fP q).bind fun b=>
        cond (gH i j a b) (match kQ a b with
         |some r=>(match md with | .take=>bad|_=>(bI aB .none).bind fun _=>aG r.1 r.2)
         |none=>(ofO (kR a b)).bind fun r=>aG r.1 r.2) bad
       |_,_=>bad
     |_,_=>bad
   | .builtin .min=>match c.args.toList with
     | [x,y]=>(opc tt 0 x).bind fun a=>(opc tt 0 y).bind fun b=>match a,b with
       | .int k a,.int _ b=>aG (.int k (if b<a then b else a))
       |_,_=>bad
     |_=>bad
   | .builtin .max=>match c.args.toList with
     | [x,y]=>(opc tt 0 x).bind fun a=>(opc tt 0 y).bind fun b=>match a,b with
       | .int k a,.int _ b=>aG (.int k (if b>a then b else a))
       |_,_=>bad
     |_=>bad
   | .value (.func f)=>match orc with
     |some r=>match r.lents with
      | [.clo _ _]=>nP tt con c f r
      |_=>match r.res.nbox with
       |some cs=>l0 tt con o.dst c f r cs
       |none=>nH tt con md c f r
     |none=>bad
   | .value (.tmp t)=>match orc with
     |some r=>mP tt con c t r
     |none=>bad
   |_=>bad
 |_=>bad
structure RS where
 σ:St
 bs:List Bool
 cs:List CallO
 ob:List Prop
def cT(o:Oper):Bool:=
 match o.op with
 | .call c=>match c.callee with | .value _=>true|_=>false
 |_=>false
def jJ(o:Oper):Md->CV->CV
 | .take=>cond (cT o) CV.em CV.fz
 |_=>CV.fz
def v8(md:Md×Bool)(o:Oper):Md:=cond (md.2&&cT o) (match md.1 with | .take=> .cp|m=>m) md.1
def mC(md:Md×Bool)(o:Oper)(dc:List (Nat×Bool))(orc:Option CallO):M Eff:=
 (iA tt con (v8 md o) o dc orc).bind fun e=>M.pure (cond md.2 (e.1.mapC (jJ o md.1)) e.1,e.2)
def cJ:List (Nat×Md×Bool)->Nat->Md×Bool
 | [],_=>(.cp,false)
 |(k,m)::r,q=>cond (k.beq q) m (cJ r q)
def eR(ops:Array Oper)(o:Oper):Option (Option (Nat×Bool)):=
 match o.guard with
 |none=>some none
 |some (j,want)=>match(ops[j]?).bind (·.dst) with
  |some t=>some (some (t,want))
  |none=>none
def opM(md:Md×Bool)(o:Oper)(g:Option (Nat×Bool))(dc:List (Nat×Bool))(orc:Option CallO):M (Option Eff):=
 match g with
 |none=>(mC tt con md o dc orc).bind fun e=>M.pure (some e)
 |some (t,want)=>(cA (2*t)).bind fun a=>match a with
  | .v false [.bool _]=>match fE dc t with
    |some b=>cond (b==want) ((mC tt con md o dc orc).bind fun e=>M.pure (some e)) (M.pure none)
    |none=>bad
  | .tup []=>M.pure none
  |_=>bad
def dD(nt:Nat)(gs:List Nat)(o:Oper)(dc:List (Nat×Bool))(r:RS):Option Eff×Ups->Option (List (Nat×Bool)×RS×Ups)
 |(none,_)=>match o.dst with
  |some d=>cond (d.blt nt&&dc.all fun y=> !(d.beq y.1)) (some (dc,⟨(2*d,.tup [])::r.σ,r.bs,r.cs,r.ob⟩,[(2*d,.tup [])])) none
  |none=>some (dc,r,[])
 |(some (v,owed),ups)=>cond (ups.all fun x=>dc.all fun y=> !(x.1.beq (2*y.1)))
  (match o.dst with
  |some d=>cond (d.blt nt&&dc.all fun y=> !(d.beq y.1)) (cond (gs.contains d)
    (match v,r.bs with
     | .v false [.bool b],lit::bs=>some ((d,lit)::dc,⟨((2*d,v.mapC (CV.stale [2*d] false))::ups)++r.σ,bs,cond (cT o) r.cs.tail r.cs,(b=lit)::(owed.reverse++r.ob)⟩,(2*d,v.mapC (CV.stale [2*d] false))::ups)
     |_,_=>none)
    (some (dc,⟨((2*d,v.mapC (CV.stale [2*d] false))::ups)++r.σ,r.bs,cond (cT o) r.cs.tail r.cs,owed.reverse++r.ob⟩,(2*d,v.mapC (CV.stale [2*d] false))::ups))) none
  |none=>some (dc,⟨ups++r.σ,r.bs,cond (cT o) r.cs.tail r.cs,owed.reverse++r.ob⟩,ups)) none
def dK(o:Oper)(r:RS):Option CallO:=cond (cT o) r.cs.head? none
def eB(nt:Nat)(ms:List (Nat×Md×Bool))(ops:Array Oper)(gs:List Nat):List Oper->Nat->List (Nat×Bool)->RS->Option RS
 | [],_,_,r=>some r
 |o::rest,i,dc,r=>match eR ops o with
  |some g=>match(opM tt con (cJ ms i) o g dc (dK o r) []).run r.σ.get with
   |some e=>match dD nt gs o dc r e with
    |some q=>eB nt ms ops gs rest (i+1) q.1 q.2.1
    |none=>none
   |none=>none
  |none=>none
def cS(ops:Array Oper)(ah:List Nat)(dc:List (Nat×Bool)):List (Nat×Bool):=
 dc.filter fun y=>ah.any fun j=>match(ops[j]?).bind (·.dst) with
  |some d=>d.beq y.1
  |none=>false
def fR(nt:Nat)(ms:List (Nat×Md×Bool))(ops:Array Oper)(gs:List Nat)(ah:List (List Nat)):List Oper->Nat->List (Nat×Bool)->RS->Option (RS×List (List Nat×Ups×List (Nat×Bool)))
 | [],_,_,r=>some (r,[])
 |o::rest,i,dc,r=>match eR ops o with
  |some g=>match(opM tt con (cJ ms i) o g (cS ops ((ah[i]?).getD []) dc) (dK o r) []).run r.σ.get with
   |some e=>match dD nt gs o (cS ops ((ah[i]?).getD []) dc) r e with
    |some q=>match fR nt ms ops gs ah rest (i+1) (q.1.take (q.1.length - (cS ops ((ah[i]?).getD []) dc).length)++dc) q.2.1 with
     |some (r',l)=>some (r',((opM tt con (cJ ms i) o g (cS ops ((ah[i]?).getD []) dc) (dK o r) []).log r.σ.get,q.2.2,q.1.take (q.1.length - (cS ops ((ah[i]?).getD []) dc).length))::l)
     |none=>none
    |none=>none
   |none=>none
  |none=>none
def cD:List Oper->List (List Nat)->List (List Nat)
 | [],ps=>ps
 |o::r,ps=>cD r (ps++ [(List.range ps.length).filter fun j=>o.after.toList.any fun e=>Region.binds .any e&&(e.on.beq j||((ps[e.on]?).getD []).contains j)])
def bQ(ops:List Oper):List (List Nat):=cD ops []
def i8(xs ys:List Nat):Bool:=xs.all fun x=> !ys.contains x
abbrev Log:=List Nat×Ups×List (Nat×Bool)
def Log.keys(x:Log):List Nat:=x.2.1.map (·.1)
def kP(x y:Log):Bool:=
 i8 x.keys y.keys&&i8 x.1 y.keys&&i8 y.1 x.keys
def AV.mute(ks:List Nat)(a:AV):Bool:=
 match a with
 | .v _ cs=>cs.all fun c=> !(c.onKey ks||(ks.contains aB&&c.isBor))
 | .tup xs=>xs.all fun x=>x.2.all fun c=> !(c.onKey ks||(ks.contains aB&&c.isBor))
 | .none=>true
def fQ(ah:List (List Nat))(n:Nat):List (Nat×Nat):=
 (List.range n).flatMap fun j=>((List.range j).filter fun i=> !((ah[j]?).getD []).contains i).map fun i=>(i,j)
def bZ(l:List Log)(i:Nat):Log:=(l[i]?).getD ([],[],[])
def pP(l:List Log)(ps:List (Nat×Nat)):List Nat:=ps.flatMap fun p=>(bZ l p.1).keys++(bZ l p.2).keys
def pO(ps:List (Nat×Nat)):List Nat:=ps.flatMap fun p=> [p.1,p.2]
def fF(ops:Array Oper)(gs:List Nat)(l:List Log)(σ:St):Bool:=
 let ah:=bQ ops.toList
 let ps:=fQ ah ops.size
 ps.all (fun p=>kP (bZ l p.1) (bZ l p.2))&&σ.all (fun x=>x.2.mute (pP l ps))&&(List.range ops.size).all (fun i=>(pO ps).all fun j=>Nat.beq i j||(bZ l i).2.1.all fun y=>y.2.mute (bZ l j).keys)&&
  ops.toList.zipIdx.all (fun x=>x.1.after.all fun e=> !Region.binds .any e||Nat.blt e.on x.2)&&
  (List.range ops.size).all (fun i=>match(ops[i]?).bind (·.dst) with
    |some d=>cond (gs.contains d) ((List.range ops.size).all fun j=>Nat.beq i j|| !(bZ l j).keys.contains (2*d)) true
    |none=>true)
def jR(ops:Array Oper):List Nat:=
 ops.toList.filterMap fun o=>o.guard.bind fun g=>(ops[g.1]?).bind (·.dst)
structure Info where
 body:Code
 nt:Nat
 results:List ResultVar
 keep:List Nat
 live:List (Nat×List Nat)
 modes:List (Nat×List (Nat×Md×Bool))
 ext:List Nat:=[]
 lnt:List (Nat×Nat):=[]
 casts:List (Nat×List (Nat×Nat×Bool)):=[]
 fcast:List (Nat×Nat×Bool):=[]
def St.restrict(σ:St):List Nat->St
 | []=> []
 |k::r=>match σ.get k with
  | .none=>St.restrict σ r
  | .v g cs=>(k,.v g cs)::St.restrict σ r
  | .tup xs=>(k,.tup xs)::St.restrict σ r
def fK(σ:St)(s:Nat):Bool:=
 match σ.get (2*s+1) with
 | .v true _=>true
 |_=>false
def CV.ptrOk(σ:St):CV->Bool
 | .ptr s _=>fK σ s
 | .clo _ ss=>ss.all (fK σ)
 |_=>true
def St.wf(σ:St):List (Nat×AV)->Bool
 | []=>true
 |(_,.v _ cs)::r=>cs.all (CV.ptrOk σ)&&St.wf σ r
 |(_,.tup xs)::r=>xs.all (fun x=>x.2.all (CV.ptrOk σ))&&St.wf σ r
 |(_,.none)::r=>St.wf σ r
def gU(ext:List Nat)(σ:St)(ks:List Nat):Option St:=
 cond (St.wf (σ.restrict ks) (σ.restrict ks)&&ext.all (fK (σ.restrict ks))) (some (σ.restrict ks)) none
def CV.cast(b:Bool):CV->CV
 | .sl .own T xs=> .sl (cond b .ro .tip) T xs
 | .sl .tip T xs=> .sl (cond b .ro .tip) T xs
 | .sl (.lnt _) _ _=> .undef
 |c=>c
def castAt(b:Bool):Nat->List CV->List CV
 |_,[]=> []
 |0,x::r=>x.cast b::r
 |c+1,x::r=>x::castAt b c r
def AV.castAt(c:Nat)(b:Bool):AV->AV
 | .v g cs=> .v g (Ab.castAt b c cs)
 |_=> .none
def iZ:List (Nat×Nat×Bool)->St->St
 | [],σ=>σ
 |z::r,σ=>iZ r (σ.map fun x=>(x.1,(cond (x.1.beq z.1) (x.2.castAt z.2.1 z.2.2) x.2).mapC CV.noAl))
inductive Res where
 |stop (stk:List Item) (σ:St) (ob:List Prop)
 |done (r:CallO) (ob:List Prop)
def eX(tt:TT)(σ:St):List ResultVar->Option (List (Nat×Bool×List CV))
 | []=>some []
 | .tmp t::r=>match σ.get (2*t),eX tt σ r with
   | .v g cs,some xs=>some ((2*t,g,cs)::xs)
   |_,_=>none
 | .cell a t::r=>match σ.get (2*a),tt.get t,eX tt σ r with
   | .v false [.ptr s 0],some i,some xs=>match σ.get (2*s+1) with
     | .v true cs=>cond (cs.length.beq i.sz) (some ((2*s+1,i.agg,cs)::xs)) none
     |_=>none
   |_,_,_=>none
def iD(σ:St):List Nat->Option (List (List CV))
 | []=>some []
 |s::r=>match σ.get (2*s+1),iD σ r with
  | .v true cs,some o=>some (cs::o)
  |_,_=>none
def gX(σ:St):Nat->List (Nat×Nat)->Option (List CV)
 |_,[]=>some []
 |n,(k,c)::r=>match σ.get k,gX σ (n+1) r with
  | .v g cs,some o=>match cs[c]? with
    |some (.sl (.lnt m) T xs)=>cond (m.beq n&&(g||(k % 2).beq 0)) (some (.sl (.lnt m) T xs::o)) none
    |_=>none
  |_,_=>none
def iF:List (Nat×Bool×List CV)->AV
 | [x]=> .v x.2.1 x.2.2
 |xs=> .tup (xs.map fun x=>x.2)
def eO(xs:List (Nat×Bool×List CV))(ext:List Nat):List Nat:=(xs.map fun x=>x.1)++ext.map fun s=>2*s+1
def fH(tt:TT)(I:Info)(r:RS):Option Res:=
 match r.bs,r.cs,eX tt r.σ I.results,iD r.σ I.ext,gX r.σ 0 I.lnt with
 | [],[],some xs,some outs,some ls=>
   cond (aR (eO xs I.ext)&&I.lnt.all (fun p=> !(eO xs I.ext).contains p.1)&&
    xs.all (fun x=>x.2.2.all CV.plain)&&outs.all (fun o=>o.all CV.plainC))
    (some (.done ⟨iF xs,outs,ls⟩ r.ob.reverse)) none
 |_,_,_,_,_=>none
def jH(I:Info)(σ:St):Option (List CV):=
 match I.results,I.ext,I.lnt with
 | [.tmp t],[],[]=>match σ.get (2*t) with
   | .v false [.ptr s 0]=>match σ.get (2*s+1) with
     | .v true cs=>cond (cs.all CV.plain) (some cs) none
     |_=>none
   |_=>none
 |_,_,_=>none
def lH(tt:TT)(I:Info)(r:RS):Option Res:=match jH I r.σ with
 |some cs=>match r.bs,r.cs with
  | [],[]=>some (.done ⟨.tup [(false,[.ptr 0 0]),(true,cs)],[],[]⟩ r.ob.reverse)
  |_,_=>none
 |none=>fH tt I r
def fin(tt:TT)(I:Info)(r:RS):Option Res:=lH tt I ⟨iZ I.fcast r.σ,r.bs,r.cs,r.ob⟩
def run(I:Info):Nat->Bool->List Item->RS->Option Res
 |0,_,_,_=>none
 |_+1,_,[],r=>fin tt I r
 |n+1,first,.code c::k,r=>match c with
  | .skip=>run I n first k r
  | .seq a b=>run I n first (.code a:: .code b::k) r
  | .cond x a b=>match(opc tt 0 x []).run r.σ.get,r.bs with
    |some (.bool v,_),lit::bs=>run I n false (.code (cond lit a b)::k) ⟨r.σ,bs,r.cs,(v=lit)::r.ob⟩
    |_,_=>none
  | .block id b=>run I n first (.code b:: .inBlock id::k) r
  | .loop b=>run I n first (.code b:: .inLoop b::k) r
  | .exit id=>match exitTo id k with
    |some k' =>run I n first k' r
    |none=>none
  | .ret=>fin tt I r
  | .region id ops draw=>
    match cond first none (aK I.live id) with
    |some ks=>match r.bs,r.cs with
     | [],[]=>match gU I.ext r.σ ks with
       |some σ=>some (.stop (.code (.region id ops draw)::k) (iZ ((aK I.casts id).getD []) σ) r.ob.reverse)
       |none=>none
     |_,_=>none
    |none=>cond draw
     (match fR tt con I.nt ((aK I.modes id).getD []) ops (jR ops) (bQ ops.toList) ops.toList 0 [] r with
       |some (r',l)=>cond (fF ops (jR ops) l r.σ) (match gU I.ext r'.σ I.keep with
        |some σ=>run I n false k ⟨σ,r'.bs,r'.cs,r'.ob⟩
        |none=>none) none
       |none=>none)
     (match eB tt con I.nt ((aK I.modes id).getD []) ops (jR ops) ops.toList 0 [] r with
       |some r' =>match gU I.ext r'.σ I.keep with
        |some σ=>run I n false k ⟨σ,r'.bs,r'.cs,r'.ob⟩
        |none=>none
       |none=>none)
  |_=>none
 |n+1,first,.inBlock _::k,r=>run I n first k r
 |n+1,first,.inLoop b::k,r=>run I n first (.code b:: .inLoop b::k) r
 |_+1,_,_,_=>none
end
def eP(R:Nat):Code->List Item->Option (List Item)
 | .seq a b,k=>(eP R a (.code b::k)).or (eP R b k)
 | .cond _ a b,k=>(eP R a k).or (eP R b k)
 | .block id b,k=>eP R b (.inBlock id::k)
 | .loop b,k=>eP R b (.inLoop b::k)
 | .region id ops d,k=>cond (id.beq R) (some (.code (.region id ops d)::k)) none
 |_,_=>none
def zAr(R:Nat)(c:Code):List Item:=(eP R c []).getD []
end Go.Ab
end
section
namespace Go.Ab
inductive D where
 |int (k:IntKind) (n:Int)
 |bool (b:Bool)
 |str (s:Str)
 |sl (sz:Nat) (rows:List (List D))
def Rowd.toD(r:Rowd):List D:=[.sl 1 (r.cells.map fun n=> [.int .i64 n]),.sl 2 (r.frm.map fun o=> [.int .i64 o.cell,.int .i64 o.row])]
mutual
def Val.toD:Val->List D
 | .mk k n s t l c r=> [.int .i64 k,.int .i64 n,.int .i64 s,.str t,.sl 7 (Val.toDs l),.sl 1 (c.map fun x=> [.str x]),.sl 2 (r.map Rowd.toD)]
def Val.toDs:List Val->List (List D)
 | []=> []
 |v::r=>Val.toD v::Val.toDs r
end
mutual
def Exp.toD:Exp->List D
 | .mk k n t a=> [.int .i64 k,.int .i64 n,.str t,.sl 4 (Exp.toDs a)]
def Exp.toDs:List Exp->List (List D)
 | []=> []
 |v::r=>Exp.toD v::Exp.toDs r
end
theorem Val.toDs_eq(l:List Val):Val.toDs l=l.map Val.toD:=by
 induction l with
 |nil=>rfl
 |cons a l ih=>simp [Val.toDs,ih]
theorem Exp.toDs_eq(l:List Exp):Exp.toDs l=l.map Exp.toD:=by
 induction l with
 |nil=>rfl
 |cons a l ih=>simp [Exp.toDs,ih]
def Ty.toD:(T:Ty)->T.den->List D
 | .int,n=> [.int .i64 n]
 | .byte,n=> [.int .u8 n]
 | .str,s=> [.str s]
 | .org,o=> [.int .i64 (Org.cell o),.int .i64 (Org.row o)]
 | .row,r=>Rowd.toD r
 | .val,v=>Val.toD v
 | .exp,e=>Exp.toD e
 | .fil,x=> [.str (Fil.name x),.int .i64 (Fil.n x)]
 | .tok,t=> [.int .i64 (Tok.kind t),.int .i64 (Tok.n t),.int .i64 (Tok.pos t),.str (Tok.text t)]
 | .rea,r=> [.int .i64 (Rea.kind r),.int .i64 (Rea.n r),.int .i64 (Rea.time r),.str (Rea.text r)]++Val.toD (Rea.result r)
 | .bnd,b=> .str (Bnd.name b)::Val.toD (Bnd.value b)
 | .cel,c=> [.int .i64 (Cel.id c),.int .i64 (Cel.version c),.int .i64 (Cel.kind c),.str (Cel.name c),.str (Cel.code c),.int .i64 (Cel.n c)]
def CV.toD:CV->D
 | .int k n=> .int k n
 | .bool b=> .bool b
 | .str s=> .str s
 | .sl _ T xs=> .sl T.sz (xs.map T.toD)
 |_=> .bool false
theorem Val.toD_cells(f:Fl)(v:Val):Val.toD v=[.int .i64 v.kind,.int .i64 v.n,.int .i64 v.step,.str v.text,CV.toD (.sl f .val v.list),CV.toD (.sl f .str v.columns),CV.toD (.sl f .row v.rows)]:=by
 cases v with
 |mk k n s t l c r=>simp [Val.toD,Val.toDs_eq,CV.toD,Val.kind,Val.n,Val.step,Val.text,Val.list,Val.columns,Val.rows,Ty.sz];exact⟨fun _ _=>rfl,fun _ _=>rfl,fun _ _=>rfl⟩
theorem Exp.toD_cells(f:Fl)(v:Exp):Exp.toD v=[.int .i64 v.kind,.int .i64 v.n,.str v.text,CV.toD (.sl f .exp v.args)]:=by
 cases v with
 |mk k n t a=>simp [Exp.toD,Exp.toDs_eq,CV.toD,Exp.kind,Exp.n,Exp.text,Exp.args,Ty.sz];exact fun _ _=>rfl
theorem Ty.enc_toD(f:Fl)(T:Ty)(x:T.den):(T.enc f x).map CV.toD=T.toD x:=by
 cases T with
 |row=>rfl
 |val=>simp only [Ty.enc,Ty.toD,List.map];rw [Val.toD_cells f];rfl
 |exp=>simp only [Ty.enc,Ty.toD,List.map];rw [Exp.toD_cells f];rfl
 |rea=>simp only [Ty.enc,Ty.toD,List.map];rw [Val.toD_cells f];rfl
 |bnd=>simp only [Ty.enc,Ty.toD,List.map];rw [Val.toD_cells f];rfl
 |_=>rfl
theorem Ty.enc_length(f:Fl)(T:Ty)(x:T.den):(T.enc f x).length=T.sz:=by cases T <;>rfl
theorem Ty.toD_length(T:Ty)(x:T.den):(T.toD x).length=T.sz:=by
 rw [<-Ty.enc_toD .ro T x,Zr,Ty.enc_length]
theorem Ty.sz_pos(T:Ty):0<T.sz:=by cases T <;>decide
theorem Ty.dec_toD(T:Ty)(cs:List CV)(x:T.den)(h:T.dec cs=some x):T.toD x=cs.map CV.toD:=by
 unfold Ty.dec at h
 split at h <;>first
  |(simp at h;done)
  |(cases h;rfl)
  |(cases h;simp only [Ty.toD,List.map];rw [Val.toD_cells .ro];rfl)
  |(cases h;simp only [Ty.toD,List.map];rw [Exp.toD_cells .ro];rfl)
inductive RdP (w:World):(List (Nat×Nat)->Nat->Nat->Prop)->(List (Nat×Nat)->Value->Nat->Prop)->Value->D->Prop where
 |int {ok q} (k:IntKind) (n:Int):RdP w ok q (.int k n) (.int k n)
 |bool {ok q} (b:Bool):RdP w ok q (.bool b) (.bool b)
 |str {ok q} (s:ByteArray):RdP w ok q (.string s) (.str s.data.toList)
 |nil {ok q} (a:Option Addr) (cap sz:Nat) (hq:q [] (.slice a 0 cap) sz):RdP w ok q (.slice a 0 cap) (.sl sz [])
 |sl {ok q} (b off n cap sz:Nat) (rows:List (List D)) (u:Nat->Nat->Value) (hn:rows.length=n) (hcap:n<=cap) (hr:∀r∈rows,r.length=sz)
   (hq:q [] (.slice (some ⟨b,off,none⟩) n cap) sz)
   (hc:∀i j,i<n->j<sz->w.cell? ⟨b,off+i*sz+j,none⟩=some (u i j)/\ok [] b (off+i*sz+j))
   (hk:∀i j (hi:i<rows.length) (hj:j<rows[i].length),RdP w (fun p=>ok ((i,j)::p)) (fun p=>q ((i,j)::p)) (u i j) (rows[i][j])):
   RdP w ok q (.slice (some ⟨b,off,none⟩) n cap) (.sl sz rows)
theorem RdP.mono{w w' :World}{ok ok' :List (Nat×Nat)->Nat->Nat->Prop}{q q' :List (Nat×Nat)->Value->Nat->Prop}{v:Value}{d:D}
 (h:RdP w ok q v d) (hc:∀p b o,ok p b o->w'.cell? ⟨b,o,none⟩=w.cell? ⟨b,o,none⟩/\ok' p b o) (hq:∀p v sz,q p v sz->q' p v sz):
 RdP w' ok' q' v d:=by
 induction h generalizing ok' q' with
 |int k n=>exact .int k n
 |bool b=>exact .bool b
 |str s=>exact .str s
 |nil a cap sz h=>exact .nil a cap sz (hq _ _ _ h)
 |sl b off n cap sz rows u hn hcap hr h0 h1 _ ih=>
  refine .sl b off n cap sz rows u hn hcap hr (hq _ _ _ h0) (fun i j hi hj=> ?_) (fun i j hi hj=> ?_)
  ·obtain⟨a,b⟩:=h1 i j hi hj;exact⟨(hc _ _ _ b).1.trans a,(hc _ _ _ b).2⟩
  ·exact ih i j hi hj (fun p=>hc _) (fun p=>hq _)
theorem RdP.shape{w:World}{ok:List (Nat×Nat)->Nat->Nat->Prop}{q:List (Nat×Nat)->Value->Nat->Prop}{v:Value}{sz:Nat}{rows:List (List D)}
 (h:RdP w ok q v (.sl sz rows)):∃ad cap,v= .slice ad rows.length cap/\rows.length<=cap:=by
 cases h with
 |nil a cap sz hq=>exact⟨a,cap,rfl,Z9 _⟩
 |sl b off n cap sz rows u hn hcap=>subst hn;exact⟨_,_,rfl,hcap⟩
theorem RdP.cells{w:World}{ok:List (Nat×Nat)->Nat->Nat->Prop}{q:List (Nat×Nat)->Value->Nat->Prop}{v:Value}{sz:Nat}{rows:List (List D)}
 (h:RdP w ok q v (.sl sz rows)) (hne:rows≠ []):∃b off cap,v= .slice (some ⟨b,off,none⟩) rows.length cap/\rows.length<=cap/\(∀r∈rows,r.length=sz)/\q [] v sz/\
   ∃u:Nat->Nat->Value,(∀i j,i<rows.length->j<sz->w.cell? ⟨b,off+i*sz+j,none⟩=some (u i j)/\ok [] b (off+i*sz+j))/\
    ∀i j (hi:i<rows.length) (hj:j<rows[i].length),RdP w (fun p=>ok ((i,j)::p)) (fun p=>q ((i,j)::p)) (u i j) (rows[i][j]):=by
 cases h with
 |nil a cap sz hq=>exact absurd rfl hne
 |sl b off n cap sz rows u hn hcap hr hq hc hk=>subst hn;exact⟨b,off,cap,rfl,hcap,hr,hq,u,hc,hk⟩
end Go.Ab
end
section
namespace Go.Ab
inductive Pl where
 |k (n:Nat)
 |h (i:Nat)
 deriving DecidableEq
inductive Own where
 |box (s:Nat)
 |arr (k:Pl) (c:Nat) (p:List (Nat×Nat))
 deriving DecidableEq
structure Env where
 w:World
 hw:Nat->Nat
 ow:Nat->Option Own
 bx:Nat->Nat
 hdr:Nat->Value
def okF(E:Env)(k:Pl)(c:Nat):Fl->List (Nat×Nat)->Nat->Nat->Prop
 | .ro=>fun _ b o=>o<E.hw b/\E.ow b=none
 | .bor=>fun _ b o=>o<E.hw b
 | .own=>fun p b o=>o<E.hw b/\E.ow b=some (.arr k c p)
 | .lnt _=>fun p b o=>o<E.hw b/\E.ow b=some (.arr k c p)
 | .tip=>fun p b o=>o<E.hw b/\(p=[]->E.ow b=some (.arr k c p))/\(p≠ []->E.ow b=none)
 | .al k' c' p' =>fun p b o=>o<E.hw b/\E.ow b=some (.arr (.k k') c' (p' ++p))
def Tip(E:Env)(l:Own)(v:Value)(sz:Nat):Prop:=
 match v with
 | .slice (some ⟨b,0,none⟩) n cap=>E.ow b=some l/\E.hw b=n*sz/\n<=cap/\
     ∃cs ty lo hi,E.w.heap[b]? =some (.cells cs ty (lo,hi))/\cap*sz=cs.size/\∀o,lo<=o->o<hi->cap*sz<=o
 | .slice none n cap=>n=0/\cap=0
 |_=>False
def qF(E:Env)(k:Pl)(c:Nat):Fl->List (Nat×Nat)->Value->Nat->Prop
 | .own=>fun p v sz=>Tip E (.arr k c p) v sz
 | .lnt n=>fun p v sz=>Tip E (.arr k c p) v sz/\(p=[]->v=E.hdr n)
 | .tip=>fun p v sz=>p=[]->Tip E (.arr k c p) v sz
 | .al k' c' p' =>fun p v sz=>Tip E (.arr (.k k') c' (p' ++p)) v sz
 |_=>fun _ _ _=>True
def kK(E:Env)(l:Own)(b:Nat)(T:Ty)(xs:List T.den)(cap:Nat):Prop:=
 E.ow b=some l/\xs.length<=cap/\E.hw b<=xs.length*T.sz/\∃cs ty lo hi,E.w.heap[b]? =some (.cells cs ty (lo,hi))/\cap*T.sz=cs.size/\(∀o,lo<=o->o<hi->cap*T.sz<=o)/\
  ∀i j (hi:i<xs.length) (hj:j<(T.toD xs[i]).length),∃u,cs[i*T.sz+j]? =some u/\∀(w:World) (ok:List (Nat×Nat)->Nat->Nat->Prop) (q:List (Nat×Nat)->Value->Nat->Prop),RdP w ok q u ((T.toD xs[i])[j])
def VRc(E:Env)(bxs:Nat->Prop)(k:Pl)(c:Nat):CV->Value->Prop
 | .int kd n,v=>v= .int kd n
 | .bool b,v=>v= .bool b
 | .str s,v=>∃t:ByteArray,v= .string t/\t.data.toList=s
 | .sl f T xs,v=>RdP E.w (okF E k c f) (qF E k c f) v (.sl T.sz (xs.map T.toD))
 | .ptr s off,v=>v= .pointer (some ⟨E.bx s,off,none⟩)/\bxs s
 | .clo k ss,v=>v= .func (.func k) #[] (ss.map fun s=>Value.pointer (some ⟨E.bx s,0,none⟩)).toArray/\∀s∈ss,bxs s
 | .swp sf n h _,v=>(v.oneCell' =true/\h.oneCell' =true)/\∀ad l cap,E.hdr n= .slice ad l cap->2<=l->v= .func (.func sf) #[] #[E.hdr n,h]
 | .eptr f T x off,v=>(f= .ro\/f= .bor)/\∃b o,v= .pointer (some ⟨b,o+off,none⟩)/\
     ∃u:Nat->Value,∀j (hj:j<(T.toD x).length),E.w.cell? ⟨b,o+j,none⟩=some (u j)/\okF E k c f [] b (o+j)/\
      RdP E.w (fun p=>okF E k c f ((0,j)::p)) (fun p=>qF E k c f ((0,j)::p)) (u j) ((T.toD x)[j])
 | .eref k' c' p i T x off,v=>∃b,v= .pointer (some ⟨b,i*T.sz+off,none⟩)/\E.ow b=some (.arr (.k k') c' p)/\((i+1)*T.sz<=E.hw b/\∀o,o<E.hw b->E.w.frozen? ⟨b,o,none⟩=false)/\
     ∃u:Nat->Value,∀j (hj:j<(T.toD x).length),E.w.cell? ⟨b,i*T.sz+j,none⟩=some (u j)/\
      RdP E.w (fun q=>okF E k c (.al k' c' p) ((i,j)::q)) (fun q=>qF E k c (.al k' c' p) ((i,j)::q)) (u j) ((T.toD x)[j])
 | .apd k' c' p T xs,v=>T.flat=true/\((∃b cap,v= .slice (some ⟨b,0,none⟩) xs.length cap/\kK E (.arr (.k k') c' p) b T xs cap)\/RdP E.w (okF E k c .own) (qF E k c .own) v (.sl T.sz (xs.map T.toD)))
 | .val u,v=>v=u/\v.oneCell' =true
 | .undef,v=>v.oneCell' =true
theorem VRc.one{E:Env}{bxs:Nat->Prop}{k:Pl}{c:Nat}{x:CV}{v:Value}(h:VRc E bxs k c x v):v.oneCell' =true:=by
 cases x with
 |int kd n=>obtain rfl:v=_:=h;rfl
 |bool b=>obtain rfl:v=_:=h;rfl
 |str s=>obtain⟨t,rfl,_⟩:=h;rfl
 |sl f T xs=>obtain⟨ad,cap,rfl,_⟩:=RdP.shape h;rfl
 |ptr s off=>obtain⟨rfl,_⟩:=h;rfl
 |clo k ss=>obtain⟨rfl,_⟩:=h;rfl
 |swp sf n h s=>exact h.1.1
 |eptr f T x off=>obtain⟨_,b,o,rfl,_⟩:=h;rfl
 |eref k' c' p i T x off=>obtain⟨b,rfl,_⟩:=h;rfl
 |apd k' c' p T xs=>
  rcases h.2 with ⟨b,cap,rfl,_⟩|h
  ·rfl
  ·obtain⟨ad,cap,rfl,_⟩:=RdP.shape h;rfl
 |val u=>exact h.2
 |undef=>exact h
def VRs(E:Env)(bxs:Nat->Prop)(k:Pl):Nat->List CV->List Value->Prop
 |_,[],[]=>True
 |c,x::xs,v::vs=>VRc E bxs k c x v/\VRs E bxs k (c+1) xs vs
 |_,_,_=>False
def VR1(E:Env)(bxs:Nat->Prop)(k:Pl)(c:Nat)(g:Bool)(cs:List CV)(v:Value):Prop:=
 match g with
 |true=>∃vs,v= .agg vs/\VRs E bxs k c cs vs.toList
 |false=>VRs E bxs k c cs [v]
def VRt(E:Env)(bxs:Nat->Prop)(k:Pl):Nat->List (Bool×List CV)->List Value->Prop
 |_,[],[]=>True
 |c,x::xs,v::vs=>VR1 E bxs k c x.1 x.2 v/\VRt E bxs k (c+x.2.length) xs vs
 |_,_,_=>False
def VR(E:Env)(bxs:Nat->Prop)(k:Pl):AV->Value->Prop
 | .v g cs,v=>VR1 E bxs k 0 g cs v
 | .tup xs,v=>∃vs,v= .tuple vs/\VRt E bxs k 0 xs vs.toList
 | .none,_=>True
def kL(E:Env)(bxs:Nat->Prop)(s:Nat)(cs:List CV):Prop:=
 E.ow (E.bx s)=some (.box s)/\∃vals ty,E.w.heap[E.bx s]? =some (.cells vals ty (0,0))/\VRs E bxs (.k (2*s+1)) 0 cs vals.toList
structure Ctx where
 P:Program
 B:Nat
 w0:World
 hw0:Nat->Nat
 ow0:Nat->Option Own
 hdr:Nat->Value
 nt:Nat
 ext:Nat->Option Nat
def aA(G:Nat->AV)(s:Nat):Prop:=∃cs,G (2*s+1)= .v true cs
structure Lb where
 blocks:List (Nat×Obj)
def mB:Obj->Nat
 | .cells cs _ _=>cs.size
 |_=>0
variable [Inhabited Lb]
def jW:List (Nat×Obj):=(default:Lb).blocks
def eY(E:Env):Prop:=∀x∈jW,x.1<E.w.heap.size/\E.ow x.1=none/\E.w.heap[x.1]? =some x.2/\E.hw x.1=mB x.2
structure Inv (C:Ctx) (G:Nat->AV) (tmps:Array Value) (E:Env):Prop where
 os:E.w.os=C.w0.os
 tape:E.w.tape=C.w0.tape
 output:E.w.output=C.w0.output
 size:C.B<=E.w.heap.size
 hdr:E.hdr=C.hdr
 old:∀b,b<C.B->C.ow0 b=none->E.w.heap[b]? =C.w0.heap[b]? /\E.hw b=C.hw0 b/\E.ow b=none
 new:∀b,E.w.heap.size<=b->E.ow b=none/\E.hw b=0
 inj:∀b b' l,E.ow b=some l->E.ow b' =some l->b=b'
 boxhw:∀b s,E.ow b=some (.box s)->E.hw b=0
 nt:tmps.size=C.nt
 tmp:∀t,VR E (aA G) (.k (2*t)) (G (2*t)) (tmps.getD t undef)
 box:∀s cs,G (2*s+1)= .v true cs->kL E (aA G) s cs
 ext:∀s b,C.ext s=some b->aA G s/\E.bx s=b
 base:∀x∈jW,x.1<C.B/\C.ow0 x.1=none/\C.w0.heap[x.1]? =some x.2/\C.hw0 x.1=mB x.2
def R(C:Ctx)(σ:St)(a:Act)(w:World):Prop:=a.defers=[]/\∃E,E.w=w/\Inv C σ.get a.tmps E
end Go.Ab
end
section
namespace Go.Ab
variable [Inhabited Lb]
def CV.owning:CV->Bool
 | .sl .own _ _=>true
 | .sl .tip _ _=>true
 | .sl (.lnt _) _ _=>true
 | .apd _ _ _ _ _=>true
 |_=>false
def CV.speaks(k c:Nat):CV->Prop
 | .sl (.al k' c' _) _ _=>k' =k/\c' =c
 | .eref k' c' _ _ _ _ _=>k' =k/\c' =c
 | .apd k' c' _ _ _=>k' =k/\c' =c
 |_=>False
structure Step (E E' :Env) (dk:Pl->Nat->Prop) (db:Nat->Prop) (mu:Prop):Prop where
 ro:∀b,E.ow b=none->(0<E.hw b->E'.ow b=none)/\(∀o,o<E.hw b->E'.w.cell? ⟨b,o,none⟩=E.w.cell? ⟨b,o,none⟩/\o<E'.hw b)
 own:∀b k c p,E.ow b=some (.arr k c p)->¬dk k c->E'.ow b=some (.arr k c p)/\E'.hw b=E.hw b/\E'.w.heap[b]? =E.w.heap[b]?
 bor:¬mu->∀b o,o<E.hw b->E'.w.cell? ⟨b,o,none⟩=E.w.cell? ⟨b,o,none⟩/\o<E'.hw b
 box:∀s,E.ow (E.bx s)=some (.box s)->¬db s->E'.bx s=E.bx s/\E'.ow (E.bx s)=some (.box s)/\E'.w.heap[E.bx s]? =E.w.heap[E.bx s]?
 hdr:E'.hdr=E.hdr
theorem aT{w w' :World}{b:Nat}(h:w'.heap[b]? =w.heap[b]?)(o:Nat):w'.cell? ⟨b,o,none⟩=w.cell? ⟨b,o,none⟩:=by
 simp only [World.cell?,h]
theorem oM{w w' :World}{b:Nat}(h:w'.heap[b]? =w.heap[b]?)(o:Nat):w'.frozen? ⟨b,o,none⟩=w.frozen? ⟨b,o,none⟩:=by
 simp only [World.frozen?,h]
theorem Tip.step{E E' :Env}{dk:Pl->Nat->Prop}{db:Nat->Prop}{mu:Prop}(h:Step E E' dk db mu){k:Pl}{c:Nat}{p:List (Nat×Nat)}(hk:¬dk k c){v:Value}{sz:Nat}
 (ht:Tip E (.arr k c p) v sz):Tip E' (.arr k c p) v sz:=by
 unfold Tip at ht ⊢;split at ht
 ·obtain⟨h1,h2,h3,cs,ty,lo,hi,h4,h5⟩:=ht;obtain⟨a,b,d⟩:=h.own _ _ _ _ h1 hk;exact⟨a,b.trans h2,h3,cs,ty,lo,hi,d.trans h4,h5⟩
 ·exact ht
 ·exact ht.elim
theorem VRc.step{E E' :Env}{bxs bxs' :Nat->Prop}{dk:Pl->Nat->Prop}{db:Nat->Prop}{mu:Prop}(h:Step E E' dk db mu)(hbx:∀s,bxs s->bxs' s/\E'.bx s=E.bx s)
 {k:Pl} {c:Nat} {x:CV} {v:Value} (h1:x.owning=true->¬dk k c) (h2:∀k' c',x.speaks k' c' ->¬dk (.k k') c') (h3:x.isBor=true->¬mu) (hv:VRc E bxs k c x v):
 VRc E' bxs' k c x v:=by
 cases x with
 |int kd n=>exact hv
 |bool b=>exact hv
 |str s=>exact hv
 |val u=>exact hv
 |undef=>exact hv
 |ptr s off=>exact⟨by rw [(hbx s hv.2).2];exact hv.1,(hbx s hv.2).1⟩
 |clo k ss=>exact⟨by rw [hv.1,ZO (f:=fun s=>Value.pointer (some ⟨E.bx s,0,none⟩)) (g:=fun s=>Value.pointer (some ⟨E'.bx s,0,none⟩)) fun s hs=>by rw [(hbx s (hv.2 s hs)).2]],fun s hs=>(hbx s (hv.2 s hs)).1⟩
 |swp sf n h0 s=>exact⟨hv.1,fun ad l cap he=>by rw [h.hdr] at he ⊢;exact hv.2 ad l cap he⟩
 |sl f T xs=>
  have hv:RdP E.w (okF E k c f) (qF E k c f) v (.sl T.sz (xs.map T.toD)):=hv;show RdP E'.w (okF E' k c f) (qF E' k c f) v (.sl T.sz (xs.map T.toD));cases f with
  |ro=>
   refine hv.mono (fun p b o ho=> ?_) (fun _ _ _ _=>trivial);obtain⟨a,b'⟩:=h.ro b ho.2;exact⟨(b' o ho.1).1,(b' o ho.1).2,a (by have:=ho.1;omega)⟩
  |bor=>exact hv.mono (fun p b o ho=>h.bor (h3 rfl) b o ho) (fun _ _ _ _=>trivial)
  |own=>
   refine hv.mono (fun p b o ho=> ?_) (fun p v sz ht=>Tip.step h (h1 rfl) ht);obtain⟨a,b',d⟩:=h.own _ _ _ _ ho.2 (h1 rfl);exact⟨aT d o,by rw [b'];exact ho.1,a⟩
  |lnt n=>
   refine hv.mono (fun p b o ho=> ?_) (fun p v sz ht=>⟨Tip.step h (h1 rfl) ht.1,by rw [h.hdr];exact ht.2⟩);obtain⟨a,b',d⟩:=h.own _ _ _ _ ho.2 (h1 rfl);exact⟨aT d o,by rw [b'];exact ho.1,a⟩
  |tip=>
   refine hv.mono (fun p b o ho=> ?_) (fun p v sz ht hp=>Tip.step h (h1 rfl) (ht hp));by_cases hp:p=[]
   ·obtain⟨a,b',d⟩:=h.own _ _ _ _ (ho.2.1 hp) (h1 rfl);exact⟨aT d o,by rw [b'];exact ho.1,fun _=>a,fun hn=>absurd hp hn⟩
   ·obtain⟨a,b'⟩:=h.ro b (ho.2.2 hp);exact⟨(b' o ho.1).1,(b' o ho.1).2,fun hq=>absurd hq hp,fun _=>a (by have:=ho.1;omega)⟩
  |al k' c' p' =>
   refine hv.mono (fun p b o ho=> ?_) (fun p v sz ht=>Tip.step h (h2 k' c' ⟨rfl,rfl⟩) ht);obtain⟨a,b',d⟩:=h.own _ _ _ _ ho.2 (h2 k' c' ⟨rfl,rfl⟩);exact⟨aT d o,by rw [b'];exact ho.1,a⟩
 |apd k' c' p T xs=>
  obtain⟨hfl,hv⟩:=hv;refine⟨hfl,?_⟩;rcases hv with ⟨b,cap,e,g1,g2,g3,cs,ty,lo,hi,g4,g5⟩|hv
  ·obtain⟨a,b',d⟩:=h.own _ _ _ _ g1 (h2 k' c' ⟨rfl,rfl⟩);exact .inl ⟨b,cap,e,a,g2,by rw [b'];exact g3,cs,ty,lo,hi,d.trans g4,g5⟩
  ·refine .inr (hv.mono (fun p b o ho=> ?_) (fun p v sz ht=>Tip.step h (h1 rfl) ht));obtain⟨a,b',d⟩:=h.own _ _ _ _ ho.2 (h1 rfl);exact⟨aT d o,by rw [b'];exact ho.1,a⟩
 |eptr f T x off=>
  obtain⟨hf,b,o,e,u,hu⟩:=hv;refine⟨hf,b,o,e,u,fun j hj=> ?_⟩;obtain⟨g1,g2,g3⟩:=hu j hj;cases f with
  |ro=>
   have aux:∀(b o:Nat),o<E.hw b/\E.ow b=none->E'.w.cell? ⟨b,o,none⟩=E.w.cell? ⟨b,o,none⟩/\o<E'.hw b/\E'.ow b=none:=fun b o ho=>
    ⟨((h.ro b ho.2).2 o ho.1).1,((h.ro b ho.2).2 o ho.1).2,(h.ro b ho.2).1 (by have:=ho.1;omega)⟩
   exact⟨(aux _ _ g2).1.trans g1,(aux _ _ g2).2,g3.mono (fun p b o ho=>aux b o ho) (fun _ _ _ _=>trivial)⟩
  |bor=>
   have hm:=h.bor (h3 rfl);exact⟨(hm _ _ g2).1.trans g1,(hm _ _ g2).2,g3.mono (fun p b o ho=>hm b o ho) (fun _ _ _ _=>trivial)⟩
  |own=>simp at hf
  |lnt n=>simp at hf
  |tip=>simp at hf
  |al k' c' p' =>simp at hf
 |eref k' c' p i T x off=>
  obtain⟨b,e,e1,e2,u,hu⟩:=hv;have hd:=h2 k' c' ⟨rfl,rfl⟩;obtain⟨a,b',d⟩:=h.own _ _ _ _ e1 hd;refine⟨b,e,a,⟨by rw [b'];exact e2.1,fun o ho=>by rw [oM d];exact e2.2 o (by rw [<-b'];exact ho)⟩,u,fun j hj=> ?_⟩;obtain⟨g1,g2⟩:=hu j hj;refine⟨(aT d _).trans g1,g2.mono (fun p b o ho=> ?_) (fun p v sz ht=>Tip.step h hd ht)⟩;obtain⟨a,b',d⟩:=h.own _ _ _ _ ho.2 hd;exact⟨aT d o,by rw [b'];exact ho.1,a⟩
end Go.Ab
end
section
namespace Go.Ab
variable [Inhabited Lb]
theorem CV.stale_nil(c:CV):c.stale [] false=c:=by
 cases c <;>simp [CV.stale,CV.onKey];split <;>simp_all
theorem CV.stale_stale(c:CV){s1 s2 s:List Nat}{m1 m2 m:Bool}(hs:∀k,s.contains k=(s1.contains k||s2.contains k))(hm:m=(m1||m2)):
 (c.stale s1 m1).stale s2 m2=c.stale s m:=by
 have e:∀(s1 s2 s:List Nat),(∀k,s.contains k=(s1.contains k||s2.contains k))->c.onKey s=(c.onKey s1||c.onKey s2):=by
  intro s1 s2 s hs;cases c with
  |sl f T xs=>cases f <;>simp [CV.onKey];rename_i k c p;simpa using hs k
  |eref k c p i T x off=>simpa [CV.onKey] using hs k
  |apd k c p T xs=>simpa [CV.onKey] using hs k
  |_=>simp [CV.onKey]
 subst hm;unfold CV.stale;rw [e s1 s2 s hs];cases h1:c.onKey s1 <;>cases h2:c.onKey s2 <;>cases hb:c.isBor <;>cases m1 <;>cases m2 <;>simp [h1,h2,hb,show ∀s,CV.onKey s .undef=false from fun _=>rfl,show CV.isBor .undef=false from rfl]
theorem AV.mapC_id{f:CV->CV}(h:∀c,f c=c)(a:AV):a.mapC f=a:=by
 have:f=id:=funext h;subst this;cases a <;>simp [AV.mapC]
theorem AV.mapC_comp(f g:CV->CV)(a:AV):(a.mapC f).mapC g=a.mapC fun c=>g (f c):=by
 cases a <;>simp [AV.mapC,Function.comp_def]
theorem St.getS_eq(σ:St)(q:Nat):∀ {s1 s2 s:List Nat} {m1 m2 m:Bool},(∀k,s.contains k=(s1.contains k||s2.contains k))->m=(m1||m2)->
 St.getS σ q s m=(St.getS σ q s1 m1).mapC (CV.stale s2 m2):=by
 induction σ with
 |nil=>intros;rfl
 |cons kv r ih=>
  intro s1 s2 s m1 m2 m hs hm;obtain⟨k,v⟩:=kv;simp only [St.getS];cases hk:k.beq q with
  |true=>
   simp only [jT];rw [AV.mapC_comp]
   congr 1
   funext c
   exact(CV.stale_stale c hs hm).symm
  |false=>
   simp only [jF];refine ih (fun k' => ?_) (by subst hm;cases m1 <;>cases m2 <;>cases k.beq aB <;>rfl);have:=hs k';simp only [YK,this];cases k' ==k <;>simp
theorem St.getS_get(σ:St)(q:Nat)(s:List Nat)(m:Bool):St.getS σ q s m=(σ.get q).mapC (CV.stale s m):=
 St.getS_eq σ q (fun k=>by simp) (by simp)
theorem St.get_cons(k:Nat)(v:AV)(σ:St)(q:Nat):
 St.get ((k,v)::σ) q=if k=q then v else(σ.get q).mapC (CV.stale [k] (k.beq aB)):=by
 show St.getS _ _ _ _=_;simp only [St.getS];by_cases h:k=q
 ·simp only [h,X5,jT,ZB];exact AV.mapC_id CV.stale_nil v
 ·rw [Zf h];have:k.beq q=false:=by
   cases e:k.beq q with
   |false=>rfl
   |true=>exact absurd (Zl e) h
  simp only [this,jF,ZE];exact St.getS_get σ q _ _
def CW(dk:Pl->Nat->Prop)(mu:Prop)(pl:Pl)(c:Nat)(x' x:CV):Prop:=
 x' = .undef\/(x' =x/\(x.owning=true->¬dk pl c)/\(∀k' c',x.speaks k' c' ->¬dk (.k k') c')/\(x.isBor=true->¬mu))
inductive CWs (dk:Pl->Nat->Prop) (mu:Prop) (pl:Pl):Nat->List CV->List CV->Prop where
 |nil {c}:CWs dk mu pl c [] []
 |cons {c x' x xs' xs} (h:CW dk mu pl c x' x) (t:CWs dk mu pl (c+1) xs' xs):CWs dk mu pl c (x' ::xs') (x::xs)
inductive CWt (dk:Pl->Nat->Prop) (mu:Prop) (pl:Pl):Nat->List (Bool×List CV)->List (Bool×List CV)->Prop where
 |nil {c}:CWt dk mu pl c [] []
 |cons {c g x' x xs' xs} (h:CWs dk mu pl c x' x) (t:CWt dk mu pl (c+x.length) xs' xs):CWt dk mu pl c ((g,x')::xs') ((g,x)::xs)
def AWk(dk:Pl->Nat->Prop)(mu:Prop)(pl:Pl):AV->AV->Prop
 | .none,_=>True
 | .v g cs',a=>∃cs,a= .v g cs/\CWs dk mu pl 0 cs' cs
 | .tup xs',a=>∃xs,a= .tup xs/\CWt dk mu pl 0 xs' xs
section
variable {E E' :Env} {bxs bxs' :Nat->Prop} {dk:Pl->Nat->Prop} {db:Nat->Prop} {mu:Prop} {pl:Pl}
theorem CW.vr(h:Step E E' dk db mu)(hbx:∀s,bxs s->bxs' s/\E'.bx s=E.bx s){c:Nat}{x' x:CV}{v:Value}(hw:CW dk mu pl c x' x)
 (hv:VRc E bxs pl c x v):VRc E' bxs' pl c x' v:=by
 rcases hw with rfl|⟨rfl,h1,h2,h3⟩
 ·exact hv.one
 ·exact hv.step h hbx h1 h2 h3
theorem CWs.vr(h:Step E E' dk db mu)(hbx:∀s,bxs s->bxs' s/\E'.bx s=E.bx s){c:Nat}{xs' xs:List CV}(hw:CWs dk mu pl c xs' xs):
 ∀ {vs:List Value},VRs E bxs pl c xs vs->VRs E' bxs' pl c xs' vs:=by
 induction hw with
 |nil=>intro vs hv;cases vs <;>simp_all [VRs]
 |cons h0 _ ih=>
  intro vs hv;cases vs with
  |nil=>exact hv.elim
  |cons v vs=>exact⟨h0.vr h hbx hv.1,ih hv.2⟩
theorem CWs.vr1(h:Step E E' dk db mu)(hbx:∀s,bxs s->bxs' s/\E'.bx s=E.bx s){xs' xs:List CV}{c:Nat}(hw:CWs dk mu pl c xs' xs){g:Bool}{v:Value}
 (hv:VR1 E bxs pl c g xs v):VR1 E' bxs' pl c g xs' v:=by
 cases g with
 |true=>obtain⟨vs,e,hv⟩:=hv;exact⟨vs,e,hw.vr h hbx hv⟩
 |false=>exact CWs.vr h hbx hw hv
theorem CWs.length{c:Nat}{xs' xs:List CV}(hw:CWs dk mu pl c xs' xs):xs'.length=xs.length:=by
 induction hw with
 |nil=>rfl
 |cons _ _ ih=>simp [ih]
theorem CWt.vr(h:Step E E' dk db mu)(hbx:∀s,bxs s->bxs' s/\E'.bx s=E.bx s){c:Nat}{xs' xs:List (Bool×List CV)}(hw:CWt dk mu pl c xs' xs):
 ∀ {vs:List Value},VRt E bxs pl c xs vs->VRt E' bxs' pl c xs' vs:=by
 induction hw with
 |nil=>intro vs hv;cases vs <;>simp_all [VRt]
 |cons h0 _ ih=>
  intro vs hv;cases vs with
  |nil=>exact hv.elim
  |cons v vs=>exact⟨h0.vr1 h hbx hv.1,by simp only [h0.length];exact ih hv.2⟩
theorem AWk.vr(h:Step E E' dk db mu)(hbx:∀s,bxs s->bxs' s/\E'.bx s=E.bx s){a' a:AV}(hw:AWk dk mu pl a' a){v:Value}(hv:VR E bxs pl a v):
 VR E' bxs' pl a' v:=by
 cases a' with
 |none=>trivial
 |v g cs' =>obtain⟨cs,rfl,hw⟩:=hw;exact hw.vr1 h hbx hv
 |tup xs' =>obtain⟨xs,rfl,hw⟩:=hw;obtain⟨vs,e,hv⟩:=hv;exact⟨vs,e,hw.vr h hbx hv⟩
theorem CWs.map{f:CV->CV}(hf:∀c x,CW dk mu pl c (f x) x)(xs:List CV):∀c,CWs dk mu pl c (xs.map f) xs:=by
 induction xs with
 |nil=>exact fun _=> .nil
 |cons x xs ih=>exact fun c=> .cons (hf c x) (ih _)
theorem AWk.map{f:CV->CV}(hf:∀c x,CW dk mu pl c (f x) x)(a:AV):AWk dk mu pl (a.mapC f) a:=by
 cases a with
 |none=>trivial
 |v g cs=>exact⟨cs,rfl,CWs.map hf cs 0⟩
 |tup xs=>
  refine⟨xs,rfl,?_⟩;generalize 0=c
  induction xs generalizing c with
  |nil=>exact .nil
  |cons x xs ih=>exact .cons (CWs.map hf x.2 c) (ih _)
theorem CW.stale{ks:List Nat}{m:Bool}{i:Nat}{c:CV}(h1:c.owning=true->¬dk pl i)(h2:∀k c,dk (.k k) c->k∈ks)(h3:mu->m=true):CW dk mu pl i (c.stale ks m) c:=by
 unfold CV.stale;cases ho:c.onKey ks with
 |true=>exact .inl rfl
 |false=>
  cases hb:(m&&c.isBor) with
  |true=>exact .inl rfl
  |false=>
   refine .inr ⟨rfl,h1,fun k' c' hs hd=> ?_,fun hc hm=> ?_⟩
   ·have hk:=h2 _ _ hd;have:ks.contains k' =true:=ZZ.2 hk;cases c with
    |sl f T xs=>
     cases f with
     |al k c p=>
      have e:k=k' :=hs.1;simp [CV.onKey,e] at ho;exact ho hk
     |_=>exact hs.elim
    |eref k c p i T x off=>
     have e:k=k' :=hs.1;simp [CV.onKey,e] at ho;exact ho hk
    |apd k c p T xs=>
     have e:k=k' :=hs.1;simp [CV.onKey,e] at ho;exact ho hk
    |_=>exact hs.elim
   ·simp [h3 hm,hc] at hb
end
theorem Inv.step{C:Ctx}{G G' :Nat->AV}{tmps tmps' :Array Value}{E E' :Env}{dk:Pl->Nat->Prop}{db:Nat->Prop}{mu:Prop}
 (hi:Inv C G tmps E) (hs:Step E E' dk db mu)
 (hos:E'.w.os=E.w.os) (htape:E'.w.tape=E.w.tape) (hout:E'.w.output=E.w.output) (hsize:E.w.heap.size<=E'.w.heap.size)
 (hold:∀b,b<C.B->C.ow0 b=none->E'.w.heap[b]? =E.w.heap[b]? /\E'.hw b=E.hw b/\E'.ow b=none)
 (hnew:∀b,E'.w.heap.size<=b->E'.ow b=none/\E'.hw b=0)
 (hinj:∀b b' l,E'.ow b=some l->E'.ow b' =some l->b=b')
 (hbhw:∀b s,E'.ow b=some (.box s)->E'.hw b=0)
 (hnt:tmps'.size=tmps.size)
 (hbxs:∀s,aA G s->aA G' s/\E'.bx s=E.bx s)
 (htmp:∀t,VR E' (aA G') (.k (2*t)) (G' (2*t)) (tmps'.getD t undef)\/
   (AWk dk mu (.k (2*t)) (G' (2*t)) (G (2*t))/\tmps'.getD t undef=tmps.getD t undef))
 (hbox:∀s cs',G' (2*s+1)= .v true cs' ->kL E' (aA G') s cs' \/
   (¬db s/\∃cs,G (2*s+1)= .v true cs/\CWs dk mu (.k (2*s+1)) 0 cs' cs)):
 Inv C G' tmps' E' where
 os:=hos.trans hi.os
 base:=hi.base
 ext:=fun s b h=>⟨(hbxs s (hi.ext s b h).1).1,(hbxs s (hi.ext s b h).1).2.trans (hi.ext s b h).2⟩
 tape:=htape.trans hi.tape
 output:=hout.trans hi.output
 size:=ZF hi.size hsize
 hdr:=hs.hdr.trans hi.hdr
 old:=fun b hb h0=>by
  obtain⟨a,b',c⟩:=hold b hb h0;obtain⟨a',b'',_⟩:=hi.old b hb h0;exact⟨a.trans a',b'.trans b'',c⟩
 new:=hnew
 inj:=hinj
 boxhw:=hbhw
 nt:=hnt.trans hi.nt
 tmp:=fun t=>by
  rcases htmp t with h|⟨h,e⟩
  ·exact h
  ·rw [e];exact h.vr hs hbxs (hi.tmp t)
 box:=fun s cs' hg=>by
  rcases hbox s cs' hg with h|⟨hd,cs,hc,hw⟩
  ·exact h
  ·obtain⟨h1,vals,ty,h2,h3⟩:=hi.box s cs hc;obtain⟨b1,b2,b3⟩:=hs.box s h1 hd;refine⟨by rw [b1];exact b2,vals,ty,by rw [b1];exact b3.trans h2,hw.vr hs hbxs h3⟩
end Go.Ab
end
section
namespace Go.Ab
variable [Inhabited Lb]
def Env.rel(E:Env)(f:Own->Option Own):Env:= { E with ow:=fun b=>(E.ow b).bind f }
structure RhoOk (f:Own->Option Own) (dk:Pl->Nat->Prop):Prop where
 box:∀s,f (.box s)=some (.box s)
 id:∀k c p,¬dk k c->f (.arr k c p)=some (.arr k c p)
 inj:∀l1 l2 l,f l1=some l->f l2=some l->l1=l2
 arr:∀k c p s,f (.arr k c p)≠some (.box s)
section
variable {E:Env} {f:Own->Option Own} {dk:Pl->Nat->Prop} {bxs:Nat->Prop}
theorem fS(hf:RhoOk f dk):Step E (E.rel f) dk (fun _=>False) False where
 ro:=fun b hb=>⟨fun _=>by simp [Env.rel,hb],fun o ho=>⟨rfl,ho⟩⟩
 own:=fun b k c p hb hk=>⟨by simp [Env.rel,hb,hf.id k c p hk],rfl,rfl⟩
 bor:=fun _ b o ho=>⟨rfl,ho⟩
 box:=fun s hs _=>⟨rfl,by simp [Env.rel,hs,hf.box],rfl⟩
 hdr:=rfl
theorem Inv.rel{C:Ctx}{G G' :Nat->AV}{tmps tmps' :Array Value}(hi:Inv C G tmps E)(hf:RhoOk f dk)(hnt:tmps'.size=tmps.size)
 (hbxs:∀s,aA G s->aA G' s)
 (htmp:∀t,VR (E.rel f) (aA G') (.k (2*t)) (G' (2*t)) (tmps'.getD t undef)\/
   (AWk dk False (.k (2*t)) (G' (2*t)) (G (2*t))/\tmps'.getD t undef=tmps.getD t undef))
 (hbox:∀s cs',G' (2*s+1)= .v true cs' ->kL (E.rel f) (aA G') s cs' \/
   (∃cs,G (2*s+1)= .v true cs/\CWs dk False (.k (2*s+1)) 0 cs' cs)):
 Inv C G' tmps' (E.rel f):=by
 refine hi.step (fS hf) rfl rfl rfl (Zi _) (fun b hb h0=> ?_) (fun b hb=> ?_) (fun b b' l h1 h2=> ?_) (fun b s h=> ?_) hnt (fun s hs=>⟨hbxs s hs,rfl⟩) htmp
  (fun s cs' hg=>(hbox s cs' hg).imp id fun h=>⟨id,h⟩)
 ·exact⟨rfl,rfl,by simp [Env.rel,(hi.old b hb h0).2.2]⟩
 ·have:=hi.new b hb;exact⟨by simp [Env.rel,this.1],this.2⟩
 ·simp only [Env.rel,Zm] at h1 h2;obtain⟨l1,a1,c1⟩:=h1;obtain⟨l2,a2,c2⟩:=h2;have:=hf.inj _ _ _ c1 c2;subst this;exact hi.inj _ _ _ a1 a2
 ·simp only [Env.rel,Zm] at h;obtain⟨l,a,c⟩:=h;cases l with
  |box s' =>
   rw [hf.box] at c;cases c;exact hi.boxhw b _ a
  |arr k c' p=>exact absurd c (hf.arr k c' p s)
theorem Tip.rel{k k' :Pl}{c c' :Nat}{v:Value}{sz:Nat}{p p' :List (Nat×Nat)}(hm:f (.arr k c p)=some (.arr k' c' p'))(h:Tip E (.arr k c p) v sz):
 Tip (E.rel f) (.arr k' c' p') v sz:=by
 unfold Tip at h ⊢;split at h
 ·obtain⟨h1,h2⟩:=h;exact⟨by simp [Env.rel,h1,hm],h2⟩
 ·exact h
 ·exact h.elim
theorem VRc.rel(hf:RhoOk f dk){k k' :Pl}{c c' :Nat}{x:CV}{v:Value}(hm:x.owning=true->∀p,f (.arr k c p)=some (.arr k' c' p))
 (hs:∀k1 c1,x.speaks k1 c1->¬dk (.k k1) c1) (hv:VRc E bxs k c x v):VRc (E.rel f) bxs k' c' x v:=by
 cases x with
 |int kd n=>exact hv
 |bool b=>exact hv
 |str s=>exact hv
 |val u=>exact hv
 |undef=>exact hv
 |ptr s off=>exact hv
 |clo k ss=>exact hv
 |swp sf n h0 s=>exact hv
 |sl fl T xs=>
  have hv:RdP E.w (okF E k c fl) (qF E k c fl) v (.sl T.sz (xs.map T.toD)):=hv;show RdP (E.rel f).w (okF (E.rel f) k' c' fl) (qF (E.rel f) k' c' fl) v (.sl T.sz (xs.map T.toD));cases fl with
  |ro=>exact hv.mono (fun p b o ho=>⟨rfl,ho.1,by simp [Env.rel,ho.2]⟩) (fun _ _ _ _=>trivial)
  |bor=>exact hv.mono (fun p b o ho=>⟨rfl,ho⟩) (fun _ _ _ _=>trivial)
  |own=>exact hv.mono (fun p b o ho=>⟨rfl,ho.1,by simp [Env.rel,ho.2,hm rfl]⟩) (fun p v sz ht=>Tip.rel (hm rfl p) ht)
  |lnt n=>exact hv.mono (fun p b o ho=>⟨rfl,ho.1,by simp [Env.rel,ho.2,hm rfl]⟩) (fun p v sz ht=>⟨Tip.rel (hm rfl p) ht.1,ht.2⟩)
  |tip=>
   refine hv.mono (fun p b o ho=>⟨rfl,ho.1,fun hp=> ?_,fun hp=> ?_⟩) (fun p v sz ht hp=>Tip.rel (hm rfl p) (ht hp))
   ·simp [Env.rel,ho.2.1 hp,hm rfl]
   ·simp [Env.rel,ho.2.2 hp]
  |al k1 c1 p1=>
   have hid:=fun p=>hf.id (.k k1) c1 p (hs k1 c1 ⟨rfl,rfl⟩);exact hv.mono (fun p b o ho=>⟨rfl,ho.1,by simp [Env.rel,ho.2,hid]⟩) (fun p v sz ht=>Tip.rel (hid _) ht)
 |eptr fl T x off=>
  obtain⟨hfl,b,o,e,u,hu⟩:=hv;refine⟨hfl,b,o,e,u,fun j hj=> ?_⟩;obtain⟨g1,g2,g3⟩:=hu j hj;rcases hfl with rfl|rfl
  ·exact⟨g1,⟨g2.1,by simp [Env.rel,g2.2]⟩,g3.mono (fun p b o ho=>⟨rfl,ho.1,by simp [Env.rel,ho.2]⟩) (fun _ _ _ _=>trivial)⟩
  ·exact⟨g1,g2,g3.mono (fun p b o ho=>⟨rfl,ho⟩) (fun _ _ _ _=>trivial)⟩
 |eref k1 c1 p1 i T x off=>
  obtain⟨b,e,e1,e2,u,hu⟩:=hv;have hid:=fun p=>hf.id (.k k1) c1 p (hs k1 c1 ⟨rfl,rfl⟩);refine⟨b,e,by simp [Env.rel,e1,hid],e2,u,fun j hj=>⟨(hu j hj).1,(hu j hj).2.mono (fun p b o ho=>⟨rfl,ho.1,by simp [Env.rel,ho.2,hid]⟩) (fun p v sz ht=>Tip.rel (hid _) ht)⟩⟩
 |apd k1 c1 p1 T xs=>
  obtain⟨hfl,hv⟩:=hv;refine⟨hfl,?_⟩;rcases hv with ⟨b,cap,e,g1,g2,g3,g4⟩|hv
  ·have hid:=hf.id (.k k1) c1 p1 (hs k1 c1 ⟨rfl,rfl⟩);exact .inl ⟨b,cap,e,by simp [Env.rel,g1,hid],g2,g3,g4⟩
  ·exact .inr (hv.mono (fun p b o ho=>⟨rfl,ho.1,by simp [Env.rel,ho.2,hm rfl]⟩) (fun p v sz ht=>Tip.rel (hm rfl p) ht))
theorem VRc.any{k k' :Pl}{c c' :Nat}{x:CV}{v:Value}(hx:x.owning=false)(hv:VRc E bxs k c x v):VRc E bxs k' c' x v:=by
 cases x with
 |sl fl T xs=>cases fl <;>first |exact hv|simp [CV.owning] at hx
 |eptr fl T x off=>
  obtain⟨hfl,r⟩:=hv;rcases hfl with rfl|rfl <;>exact⟨by simp,r⟩
 |eref k1 c1 p1 i T x off=>exact hv
 |apd k1 c1 p1 T xs=>simp [CV.owning] at hx
 |_=>exact hv
theorem VRc.cp{k k' :Pl}{c c' :Nat}{x:CV}{v:Value}(hv:VRc E bxs k c x v):VRc E bxs k' c' x.cp v:=by
 cases x with
 |sl fl T xs=>
  have hv:RdP E.w (okF E k c fl) (qF E k c fl) v (.sl T.sz (xs.map T.toD)):=hv;cases fl with
  |own=>exact hv.mono (fun p b o ho=>⟨rfl,ho.1⟩) (fun _ _ _ _=>trivial)
  |tip=>exact hv.mono (fun p b o ho=>⟨rfl,ho.1⟩) (fun _ _ _ _=>trivial)
  |lnt n=>exact hv.mono (fun p b o ho=>⟨rfl,ho.1⟩) (fun _ _ _ _=>trivial)
  |ro=>exact hv
  |bor=>exact hv
  |al k1 c1 p1=>exact hv
 |eptr fl T x off=>exact VRc.any rfl hv
 |apd k1 c1 p1 T xs=>exact hv.one
 |_=>exact hv
theorem VRc.alias{k:Nat}{k' :Pl}{c c' :Nat}{x:CV}{v:Value}(hv:VRc E bxs (.k k) c x v):VRc E bxs k' c' (x.alias k c []) v:=by
 cases x with
 |sl fl T xs=>
  have hv:RdP E.w (okF E (.k k) c fl) (qF E (.k k) c fl) v (.sl T.sz (xs.map T.toD)):=hv;cases fl with
  |own=>exact hv.mono (fun p b o ho=>⟨rfl,ho.1,ho.2⟩) (fun _ _ _ h=>h)
  |tip=>exact hv.mono (fun p b o ho=>⟨rfl,ho.1⟩) (fun _ _ _ _=>trivial)
  |lnt n=>exact hv.mono (fun p b o ho=>⟨rfl,ho.1,ho.2⟩) (fun _ _ _ h=>h.1)
  |ro=>exact hv
  |bor=>exact hv
  |al k1 c1 p1=>exact hv
 |eptr fl T x off=>exact VRc.any rfl hv
 |apd k1 c1 p1 T xs=>exact hv.one
 |_=>exact hv
end
theorem VRs.imp{E E' :Env}{bxs bxs' :Nat->Prop}{pl pl' :Pl}{f:CV->CV}{xs:List CV}:∀ {c c' :Nat} {vs:List Value},
 (∀j x v,x∈xs->VRc E bxs pl (c+j) x v->VRc E' bxs' pl' (c' +j) (f x) v)->VRs E bxs pl c xs vs->VRs E' bxs' pl' c' (xs.map f) vs:=by
 induction xs with
 |nil=>intro c c' vs _ hv;cases vs <;>simp_all [VRs]
 |cons x xs ih=>
  intro c c' vs h hv;cases vs with
  |nil=>exact hv.elim
  |cons v vs=>
   refine⟨h 0 x v (by simp) hv.1,ih (fun j y u hy hu=> ?_) hv.2⟩;have:=h (j+1) y u (by simp [hy]) (by rw [show c+(j+1)=c+1+j from by omega];exact hu);rw [show c' +1+j=c' +(j+1) from by omega];exact this
theorem VR1.imp{E E' :Env}{bxs bxs' :Nat->Prop}{pl pl' :Pl}{f:CV->CV}{xs:List CV}{c c' :Nat}{g:Bool}{v:Value}
 (h:∀j x v,x∈xs->VRc E bxs pl (c+j) x v->VRc E' bxs' pl' (c' +j) (f x) v) (hv:VR1 E bxs pl c g xs v):VR1 E' bxs' pl' c' g (xs.map f) v:=by
 cases g with
 |true=>obtain⟨vs,e,hv⟩:=hv;exact⟨vs,e,hv.imp h⟩
 |false=>exact VRs.imp h hv
theorem VRs.impLt{E E' :Env}{bxs bxs' :Nat->Prop}{pl pl' :Pl}{f:CV->CV}{xs:List CV}:∀ {c c' :Nat} {vs:List Value},
 (∀j x v,j<xs.length->VRc E bxs pl (c+j) x v->VRc E' bxs' pl' (c' +j) (f x) v)->VRs E bxs pl c xs vs->VRs E' bxs' pl' c' (xs.map f) vs:=by
 induction xs with
 |nil=>intro c c' vs _ hv;cases vs <;>simp_all [VRs]
 |cons x xs ih=>
  intro c c' vs h hv;cases vs with
  |nil=>exact hv.elim
  |cons v vs=>
   refine⟨h 0 x v (by simp) hv.1,ih (fun j y u hy hu=> ?_) hv.2⟩;have:=h (j+1) y u (by simp;omega) (by rw [show c+(j+1)=c+1+j from by omega];exact hu);rw [show c' +1+j=c' +(j+1) from by omega];exact this
theorem VR1.impLt{E E' :Env}{bxs bxs' :Nat->Prop}{pl pl' :Pl}{f:CV->CV}{xs:List CV}{c c' :Nat}{g:Bool}{v:Value}
 (h:∀j x v,j<xs.length->VRc E bxs pl (c+j) x v->VRc E' bxs' pl' (c' +j) (f x) v) (hv:VR1 E bxs pl c g xs v):VR1 E' bxs' pl' c' g (xs.map f) v:=by
 cases g with
 |true=>obtain⟨vs,e,hv⟩:=hv;exact⟨vs,e,hv.impLt h⟩
 |false=>exact VRs.impLt h hv
def AV.mem(x:CV):AV->Prop
 | .v _ cs=>x∈cs
 | .tup xs=>∃y∈xs,x∈y.2
 | .none=>False
theorem VR.imp{E E' :Env}{bxs bxs' :Nat->Prop}{pl pl' :Pl}{f:CV->CV}{a:AV}{v:Value}
 (h:∀j x v,a.mem x->VRc E bxs pl j x v->VRc E' bxs' pl' j (f x) v) (hv:VR E bxs pl a v):VR E' bxs' pl' (a.mapC f) v:=by
 cases a with
 |none=>trivial
 |v g cs=>exact VR1.imp (fun j x v hx hv=>by simpa using h (0+j) x v hx hv) hv
 |tup xs=>
  obtain⟨vs,e,hv⟩:=hv;refine⟨vs,e,?_⟩;generalize vs.toList=vl at hv;have key:∀(ys:List (Bool×List CV)) (c:Nat) (vl:List Value),(∀y∈ys,y∈xs)->VRt E bxs pl c ys vl->VRt E' bxs' pl' c (ys.map fun x=>(x.1,x.2.map f)) vl:=by
   intro ys
   induction ys with
   |nil=>intro c vl _ hv;cases vl <;>simp_all [VRt]
   |cons y ys ih=>
    intro c vl hm hv;cases vl with
    |nil=>exact hv.elim
    |cons v vl=>
     refine⟨VR1.imp (fun j x v hx hv=>h (c+j) x v ⟨y,hm y (by simp),hx⟩ hv) hv.1,?_⟩;simp only [Zr];exact ih _ _ (fun y hy=>hm y (by simp [hy])) hv.2
  exact key xs 0 vl (fun _ h=>h) hv
theorem VR.imp0{E E' :Env}{bxs bxs' :Nat->Prop}{pl pl' :Pl}{a:AV}{v:Value}
 (h:∀j x v,a.mem x->VRc E bxs pl j x v->VRc E' bxs' pl' j x v) (hv:VR E bxs pl a v):VR E' bxs' pl' a v:=by
 have:=VR.imp (f:=id) h hv
 rwa [AV.mapC_id (f:=id) (fun _=>rfl)] at this
theorem AV.mem_mapC{f:CV->CV}{a:AV}{x:CV}(h:(a.mapC f).mem x):∃y,a.mem y/\x=f y:=by
 cases a with
 |none=>exact h.elim
 |v g cs=>obtain⟨y,hy,e⟩:=Zk.1 h;exact⟨y,hy,e.symm⟩
 |tup xs=>
  obtain⟨y,hy,hx⟩:=h;obtain⟨z,hz,rfl⟩:=Zk.1 hy;obtain⟨y,hy,e⟩:=Zk.1 hx;exact⟨y,⟨z,hz,hy⟩,e.symm⟩
theorem CV.stale_eq{s:List Nat}{m:Bool}(c:CV):c.stale s m= .undef\/(c.stale s m=c/\c.onKey s=false/\(m&&c.isBor)=false):=by
 unfold CV.stale;cases h:c.onKey s <;>cases h' :(m&&c.isBor) <;>simp
theorem CV.speaks_onKey{s:List Nat}{c:CV}{k i:Nat}(h:c.onKey s=false)(hs:c.speaks k i):k ∉ s:=by
 intro hk;have:s.contains k=true:=ZZ.2 hk;cases c with
 |sl f T xs=>
  cases f with
  |al k' c' p=>obtain⟨rfl,rfl⟩:=hs;simp [CV.onKey] at h;exact h hk
  |_=>exact hs.elim
 |eref k' c' p i T x off=>obtain⟨rfl,rfl⟩:=hs;simp [CV.onKey] at h;exact h hk
 |apd k' c' p T xs=>obtain⟨rfl,rfl⟩:=hs;simp [CV.onKey] at h;exact h hk
 |_=>exact hs.elim
theorem oQ(tmps:Array Value)(d t:Nat)(v:Value)(hd:d<tmps.size):(tmps.setIfInBounds d v).getD t undef=if t=d then v else tmps.getD t undef:=by
 by_cases h:t=d
 ·subst h;simp [Array.getD,hd]
 ·simp only [Zf h,Array.getD,Xn];by_cases ht:t<tmps.size
  ·simp only [ht,dif_pos];show(tmps.setIfInBounds d v)[t]'_=tmps[t];rw [Array.getElem_setIfInBounds,Zf (by omega)]
  ·simp only [ht,dif_neg,not_false_eq_true]
def dV(q i:Nat):Own->Option Own
 | .arr (.k k) c p=>if k=q then some (.arr (.h i) c p) else some (.arr (.k k) c p)
 | .arr (.h j) c p=>if j=i then none else some (.arr (.h j) c p)
 | .box s=>some (.box s)
def dk2(q i:Nat):Pl->Nat->Prop:=fun pl _=>pl= .k q\/pl= .h i
theorem yJ(q i:Nat):RhoOk (dV q i) (dk2 q i) where
 box:=fun _=>rfl
 id:=fun k c p h=>by
  unfold dk2 at h;cases k with
  |k n=>have:n≠q:=fun e=>h (.inl (by rw [e]));simp [dV,this]
  |h n=>have:n≠i:=fun e=>h (.inr (by rw [e]));simp [dV,this]
 inj:=fun l1 l2 l h1 h2=>by
  unfold dV at h1 h2;split at h1 <;>split at h2 <;>(repeat' split at h1) <;>(repeat' split at h2) <;>simp_all <;>(try (subst h1;simp_all))
 arr:=fun k c p s=>by
  cases k <;>simp only [dV] <;>split <;>simp
def dT(q i:Nat):Own->Option Own
 | .arr (.k k) c p=>if k=q then none else some (.arr (.k k) c p)
 | .arr (.h j) c p=>if j=i then some (.arr (.k q) c p) else some (.arr (.h j) c p)
 | .box s=>some (.box s)
theorem xI(q i:Nat):RhoOk (dT q i) (dk2 q i) where
 box:=fun _=>rfl
 id:=fun k c p h=>by
  unfold dk2 at h;cases k with
  |k n=>have:n≠q:=fun e=>h (.inl (by rw [e]));simp [dT,this]
  |h n=>have:n≠i:=fun e=>h (.inr (by rw [e]));simp [dT,this]
 inj:=fun l1 l2 l h1 h2=>by
  unfold dT at h1 h2;split at h1 <;>split at h2 <;>(repeat' split at h1) <;>(repeat' split at h2) <;>simp_all <;>(try (subst h1;simp_all))
 arr:=fun k c p s=>by
  cases k <;>simp only [dT] <;>split <;>simp
theorem dQ{k:Nat}{v:AV}{σ:St}{s:Nat}(hk:k≠2*s+1)(h:aA σ.get s):aA (St.get ((k,v)::σ)) s:=by
 obtain⟨cs,hc⟩:=h;exact⟨cs.map (CV.stale [k] (k.beq aB)),by rw [St.get_cons,Zf hk,hc];rfl⟩
theorem eM{k:Nat}{v:AV}{σ:St}{s:Nat}{cs' :List CV}(hk:k≠2*s+1)(h:St.get ((k,v)::σ) (2*s+1)= .v true cs'):
 ∃cs,σ.get (2*s+1)= .v true cs/\cs' =cs.map (CV.stale [k] (k.beq aB)):=by
 rw [St.get_cons,Zf hk] at h;cases ha:σ.get (2*s+1) with
 |v g cs=>rw [ha] at h;simp [AV.mapC] at h;exact⟨cs,by rw [h.1],h.2.symm⟩
 |tup xs=>rw [ha] at h;simp [AV.mapC] at h
 |none=>rw [ha] at h;simp [AV.mapC] at h
theorem Inv.take{C:Ctx}{σ:St}{tmps:Array Value}{E:Env}(hi:Inv C σ.get tmps E)(t i:Nat):
 ∃E',E'.w=E.w/\E'.bx=E.bx/\Step E E' (dk2 (2*t) i) (fun _=>False) False/\
  Inv C (St.get ((2*t,((σ.get (2*t)).mapC (CV.stale [2*t] false)).mapC CV.left)::σ)) tmps E' /\
  VR E' (aA (St.get ((2*t,((σ.get (2*t)).mapC (CV.stale [2*t] false)).mapC CV.left)::σ))) (.h i) ((σ.get (2*t)).mapC (CV.stale [2*t] false)) (tmps.getD t undef):=by
 have hr:=yJ (2*t) i;have hb:∀s,aA σ.get s->aA (St.get ((2*t,((σ.get (2*t)).mapC (CV.stale [2*t] false)).mapC CV.left)::σ)) s:=fun s=>dQ (by omega);refine⟨E.rel (dV (2*t) i),rfl,rfl,fS hr,hi.rel hr rfl hb (fun t' => ?_) (fun s cs' hs=> ?_),?_⟩
 ·refine .inr ⟨?_,rfl⟩;rw [St.get_cons];split
  ·rename_i e;rw [AV.mapC_comp,<-e];refine AWk.map (fun c x=> ?_) _;rcases CV.stale_eq (s:=[2*t]) (m:=false) x with h|⟨h,h1,_⟩
   ·exact .inl (by rw [h];rfl)
   ·rw [h];cases ho:x.owning with
    |true=>refine .inl ?_;cases x with
     |sl f T xs=>cases f <;>first |rfl|simp [CV.owning] at ho
     |apd k c p T xs=>rfl
     |_=>simp [CV.owning] at ho
    |false=>
     refine .inr ⟨?_,fun h=>absurd (ho.symm.trans h) (by decide),fun k' c' hs hd=> ?_,fun _ h=>h⟩
     ·cases x with
      |sl f T xs=>cases f <;>first |rfl|simp [CV.owning] at ho
      |apd k c p T xs=>simp [CV.owning] at ho
      |_=>rfl
     ·rcases hd with hd|hd
      ·cases hd;exact CV.speaks_onKey h1 hs (by simp)
      ·cases hd
  ·rename_i e;refine AWk.map (fun c x=>CW.stale (fun _ hd=> ?_) (fun k c hd=> ?_) (fun h=>h.elim)) _
   ·rcases hd with hd|hd
    ·injection hd with hd;exact e hd.symm
    ·cases hd
   ·rcases hd with hd|hd
    ·cases hd;simp
    ·cases hd
 ·obtain⟨cs,hc,rfl⟩:=eM (by omega) hs;refine .inr ⟨cs,hc,CWs.map (fun c x=>CW.stale (fun _ hd=> ?_) (fun k c hd=> ?_) (fun h=>h.elim)) _ _⟩
  ·rcases hd with hd|hd
   ·injection hd with hd;omega
   ·cases hd
  ·rcases hd with hd|hd
   ·cases hd;simp
   ·cases hd
 ·refine VR.imp (fun j x v hx hv=> ?_) (hi.tmp t);rcases CV.stale_eq (s:=[2*t]) (m:=false) x with h|⟨h,h1,_⟩
  ·rw [h];exact hv.one
  ·rw [h];have:=hv.rel (f:=dV (2*t) i) (k' := .h i) (c' :=j) hr (fun _ p=>by simp [dV]) (fun k1 c1 hs hd=> ?_)
   ·exact VRc.step (E' :=E.rel (dV (2*t) i)) (dk:=fun _ _=>False) (db:=fun _=>True) (mu:=False) ⟨fun b hb=>⟨fun _=>hb,fun o ho=>⟨rfl,ho⟩⟩,fun b k c p hb _=>⟨hb,rfl,rfl⟩,fun _ b o ho=>⟨rfl,ho⟩,fun s _ h=>(h trivial).elim,rfl⟩
     (fun s hs=>⟨hb s hs,rfl⟩) (by simp) (by simp) (by simp) this
   ·rcases hd with hd|hd
    ·cases hd;exact CV.speaks_onKey h1 hs (by simp)
    ·cases hd
theorem Inv.put{C:Ctx}{σ:St}{tmps:Array Value}{E:Env}(hi:Inv C σ.get tmps E){d i:Nat}{a:AV}{v:Value}(hv:VR E (aA σ.get) (.h i) a v)(hd:d<tmps.size):
 ∃E',E'.w=E.w/\E'.bx=E.bx/\Step E E' (dk2 (2*d) i) (fun _=>False) False/\
  Inv C (St.get ((2*d,a.mapC (CV.stale [2*d] false))::σ)) (tmps.setIfInBounds d v) E' :=by
 have hr:=xI (2*d) i;have hb:∀s,aA σ.get s->aA (St.get ((2*d,a.mapC (CV.stale [2*d] false))::σ)) s:=fun s=>dQ (by omega);refine⟨E.rel (dT (2*d) i),rfl,rfl,fS hr,hi.rel hr (by simp) hb (fun t' => ?_) (fun s cs' hs=> ?_)⟩
 ·by_cases e:t' =d
  ·subst e;refine .inl ?_;rw [St.get_cons,Zw rfl,oQ _ _ _ _ hd,Zw rfl];refine VR.imp (fun j x v hx hv=> ?_) hv;rcases CV.stale_eq (s:=[2*t']) (m:=false) x with h|⟨h,h1,_⟩
   ·rw [h];exact hv.one
   ·rw [h];have:=hv.rel (f:=dT (2*t') i) (k' := .k (2*t')) (c' :=j) hr (fun _ p=>by simp [dT]) (fun k1 c1 hs hd=> ?_)
    ·exact VRc.step (E' :=E.rel (dT (2*t') i)) (dk:=fun _ _=>False) (db:=fun _=>True) (mu:=False) ⟨fun b hb=>⟨fun _=>hb,fun o ho=>⟨rfl,ho⟩⟩,fun b k c p hb _=>⟨hb,rfl,rfl⟩,fun _ b o ho=>⟨rfl,ho⟩,fun s _ h=>(h trivial).elim,rfl⟩
      (fun s hs=>⟨hb s hs,rfl⟩) (by simp) (by simp) (by simp) this
    ·rcases hd with hd|hd
     ·cases hd;exact CV.speaks_onKey h1 hs (by simp)
     ·cases hd
  ·refine .inr ⟨?_,by rw [oQ _ _ _ _ hd,Zf e]⟩;rw [St.get_cons,Zf (by omega)];refine AWk.map (fun c x=>CW.stale (fun _ hd=> ?_) (fun k c hd=> ?_) (fun h=>h.elim)) _
   ·rcases hd with hd|hd
    ·injection hd with hd;omega
    ·cases hd
   ·rcases hd with hd|hd
    ·cases hd;simp
    ·cases hd
 ·obtain⟨cs,hc,rfl⟩:=eM (by omega) hs;refine .inr ⟨cs,hc,CWs.map (fun c x=>CW.stale (fun _ hd=> ?_) (fun k c hd=> ?_) (fun h=>h.elim)) _ _⟩
  ·rcases hd with hd|hd
   ·injection hd with hd;omega
   ·cases hd
  ·rcases hd with hd|hd
   ·cases hd;simp
   ·cases hd
end Go.Ab
end
section
namespace Go.Ab
variable [Inhabited Lb]
def Mr{α:Type}(m:M α)(σ:St)(u:Ups):Option (α×Ups):=(m u).run σ.get
theorem RT.run_bind{α β:Type}(m:RT α)(f:α->RT β)(g:Nat->AV):(m.bind f).run g=(m.run g).bind fun a=>(f a).run g:=by
 induction m with
 |ret a=>rfl
 |fail=>rfl
 |rd k f' ih=>simp only [RT.bind,RT.run];exact ih _
theorem rG{α:Type}(a:α)(σ:St)(u:Ups):Mr (M.pure a) σ u=some (a,u):=rfl
theorem rC{α:Type}(σ:St)(u:Ups):Mr (bad:M α) σ u=none:=rfl
theorem rH(k:Nat)(a:AV)(σ:St)(u:Ups):Mr (bI k a) σ u=some ((),(k,a)::u):=rfl
theorem rF{α:Type}(x:Option α)(σ:St)(u:Ups):Mr (ofO x) σ u=x.map fun a=>(a,u):=by cases x <;>rfl
theorem mU{α β:Type}(m:M α)(f:α->M β)(σ:St)(u:Ups):Mr (m.bind f) σ u=(Mr m σ u).bind fun x=>Mr (f x.1) σ x.2:=
 RT.run_bind _ _ _
theorem uT(σ:St)(u:St)(k:Nat):∀(s:List Nat) (m:Bool),St.getS (u++σ) k s m=
 (match gR u k s m with | .inl a=>a| .inr (s',m')=>St.getS σ k s' m'):=by
 induction u with
 |nil=>intros;rfl
 |cons kv r ih=>
  intro s m;simp only [jO,St.getS,gR];cases kv.1.beq k with
  |true=>rfl
  |false=>exact ih _ _
theorem rD(k:Nat)(σ:St)(u:Ups):Mr (cA k) σ u=some (St.get (u++σ) k,u):=by
 have h:=uT σ u k [] false;unfold Mr cA;show _=some (St.getS (u++σ) k [] false,u);rw [h];cases gR u k [] false with
 |inl a=>rfl
 |inr p=>obtain⟨s,m⟩:=p;simp only [RT.run];rw [St.getS_get]
theorem aC{α β:Type}{m:M α}{f:α->M β}{σ:St}{u:Ups}{r:β×Ups}(h:Mr (m.bind f) σ u=some r):
 ∃a u',Mr m σ u=some (a,u')/\Mr (f a) σ u' =some r:=by
 rw [mU,Zm] at h;obtain⟨⟨a,u'⟩,h1,h2⟩:=h;exact⟨a,u',h1,h2⟩
theorem bN{k:Nat}{σ:St}{u u' :Ups}{a:AV}(h:Mr (cA k) σ u=some (a,u')):a=St.get (u++σ) k/\u' =u:=by
 rw [rD] at h;cases h;exact⟨rfl,rfl⟩
theorem bG{k:Nat}{a:AV}{σ:St}{u u' :Ups}{x:Unit}(h:Mr (bI k a) σ u=some (x,u')):u' =(k,a)::u:=by
 rw [rH] at h;cases h;rfl
theorem aE{α:Type}{a b:α}{σ:St}{u u' :Ups}(h:Mr (M.pure a) σ u=some (b,u')):b=a/\u' =u:=by
 rw [rG] at h;cases h;exact⟨rfl,rfl⟩
theorem cX{α:Type}{x:Option α}{b:α}{σ:St}{u u' :Ups}(h:Mr (ofO x) σ u=some (b,u')):x=some b/\u' =u:=by
 rw [rF,Z8] at h;obtain⟨a,h1,h2⟩:=h;cases h2;exact⟨h1,rfl⟩
theorem aD{α:Type}{r:α×Ups}{σ:St}{u:Ups}(h:Mr (bad:M α) σ u=some r):False:=by
 rw [rC] at h;cases h
def Hand(C:Ctx)(σ:St)(tmps:Array Value)(w:World)(i:Nat)(a:AV)(v:Value):Prop:=
 ∃E,E.w=w/\Inv C σ.get tmps E/\VR E (aA σ.get) (.h i) a v
section
variable {C:Ctx} {σ:St} {a:Act} {E:Env} {u u' :Ups} {tt:TT}
theorem lB{E:Env}{bxs:Nat->Prop}(tt:TT)(ty:TypeId)(v:Value)(pl:Pl):VR E bxs pl (gN tt ty v) v:=by
 unfold gN;split
 ·exact⟨rfl,trivial⟩
 ·exact⟨rfl,trivial⟩
 ·exact⟨⟨_,rfl,rfl⟩,trivial⟩
 ·split
  ·split
   ·rename_i e T _;refine⟨?_,trivial⟩;exact RdP.nil none 0 T.sz ⟨rfl,rfl⟩
   ·trivial
  ·trivial
 ·exact⟨⟨rfl,rfl⟩,trivial⟩
 ·exact⟨⟨rfl,rfl⟩,trivial⟩
 ·trivial
theorem d8(hi:Inv C (St.get (u++σ)) a.tmps E){ty:TypeId}{x:Operand}{r:AV}(h:Mr (opd tt .cp ty x) σ u=some (r,u')):
 u' =u/\∀pl,VR E (aA (St.get (u++σ))) pl r (a.eval x):=by
 cases x with
 |tmp t=>
  simp only [opd,rdK] at h;obtain⟨b,u1,h1,h2⟩:=aC h;obtain⟨rfl,rfl⟩:=bN h1;obtain⟨rfl,rfl⟩:=aE h2;exact⟨rfl,fun pl=>(hi.tmp t).imp fun j x v _ hv=>hv.cp⟩
 |const v=>
  obtain⟨rfl,rfl⟩:=aE h;exact⟨rfl,fun pl=>lB tt ty v pl⟩
 |func f=>
  obtain⟨rfl,rfl⟩:=aE h;exact⟨rfl,fun pl=>⟨⟨rfl,rfl⟩,trivial⟩⟩
 |global g=>exact(aD h).elim
theorem iL{r:AV}{c:CV}(h:Mr (fP r) σ u=some (c,u')):r= .v false [c]/\u' =u:=by
 unfold fP at h;split at h
 ·obtain⟨rfl,rfl⟩:=aE h;exact⟨rfl,rfl⟩
 ·exact(aD h).elim
theorem bD(hi:Inv C (St.get (u++σ)) a.tmps E){ty:TypeId}{x:Operand}{c:CV}(h:Mr (opc tt ty x) σ u=some (c,u')):
 u' =u/\∀pl i,VRc E (aA (St.get (u++σ))) pl i c (a.eval x):=by
 obtain⟨b,u1,h1,h2⟩:=aC h;obtain⟨rfl,hv⟩:=d8 hi h1;obtain⟨rfl,rfl⟩:=iL h2;refine⟨rfl,fun pl i=> ?_⟩;cases x with
 |tmp t=>
  simp only [opd,rdK] at h1;obtain⟨b,u2,h3,h4⟩:=aC h1;obtain⟨rfl,rfl⟩:=bN h3;obtain⟨e,_⟩:=aE h4;have ho:=hi.tmp t;cases hg:St.get (u2++σ) (2*t) with
  |none=>rw [hg] at e;cases e
  |tup xs=>rw [hg] at e;cases e
  |v g cs=>
   rw [hg] at e ho
   match cs,e with
   | [y],e=>
     simp [AV.mapC] at e;obtain⟨rfl,rfl⟩:=e;exact ho.1.cp
   | [],e=>simp [AV.mapC] at e
   |_::_::_,e=>simp [AV.mapC] at e
 |const v=>
  obtain⟨e,_⟩:=aE h1;unfold gN at e;split at e
  ·cases e;exact rfl
  ·cases e;exact rfl
  ·cases e;exact⟨_,rfl,rfl⟩
  ·split at e
   ·split at e
    ·cases e;exact RdP.nil none 0 _ ⟨rfl,rfl⟩
    ·cases e
   ·cases e
  ·cases e;exact⟨rfl,rfl⟩
  ·cases e;exact⟨rfl,rfl⟩
  ·cases e
 |func f=>
  obtain⟨e,_⟩:=aE h1;cases e;exact⟨rfl,rfl⟩
 |global g=>exact(aD h1).elim
theorem d9(hi:Inv C (St.get (u++σ)) a.tmps E)(i:Nat){ty:TypeId}{x:Operand}{r:AV}(h:Mr (opd tt .take ty x) σ u=some (r,u')):
 ∃E',E'.w=E.w/\E'.bx=E.bx/\Step E E' (fun pl _=>(∃t,x= .tmp t/\pl= .k (2*t))\/pl= .h i) (fun _=>False) False/\
  Inv C (St.get (u' ++σ)) a.tmps E' /\VR E' (aA (St.get (u' ++σ))) (.h i) r (a.eval x)/\(∀s,aA (St.get (u++σ)) s->aA (St.get (u' ++σ)) s):=by
 have triv:∀dk,Step E E dk (fun _=>False) False:=fun dk=>
  ⟨fun b hb=>⟨fun _=>hb,fun o ho=>⟨rfl,ho⟩⟩,fun b k c p hb _=>⟨hb,rfl,rfl⟩,fun _ b o ho=>⟨rfl,ho⟩,fun s h _=>⟨rfl,h,rfl⟩,rfl⟩
 cases x with
 |tmp t=>
  simp only [opd,rdK] at h;obtain⟨b,u1,h1,h2⟩:=aC h;obtain⟨rfl,rfl⟩:=bN h1;obtain⟨_,u2,h3,h4⟩:=aC h2;obtain rfl:=bG h3;obtain⟨rfl,rfl⟩:=aE h4;obtain⟨E',e1,e2,e3,e4,e5⟩:=hi.take t i;refine⟨E',e1,e2,⟨e3.ro,fun b k c p hb hk=>e3.own b k c p hb fun hd=>hk ?_,e3.bor,e3.box,e3.hdr⟩,e4,e5,fun s hs=>dQ (by omega) hs⟩;rcases hd with hd|hd
  ·exact .inl ⟨t,rfl,hd⟩
  ·exact .inr hd
 |const v=>
  obtain⟨rfl,rfl⟩:=aE h;exact⟨E,rfl,rfl,triv _,hi,lB tt ty v _,fun s hs=>hs⟩
 |func f=>
  obtain⟨rfl,rfl⟩:=aE h;exact⟨E,rfl,rfl,triv _,hi,⟨⟨rfl,rfl⟩,trivial⟩,fun s hs=>hs⟩
 |global g=>exact(aD h).elim
theorem pM(hi:Inv C (St.get (u++σ)) a.tmps E)(i:Nat){ty:TypeId}{x:Operand}{cs:List CV}(h:Mr (kD tt ty x) σ u=some (cs,u')):
 ∃E' g,E'.w=E.w/\E'.bx=E.bx/\Step E E' (fun pl _=>(∃t,x= .tmp t/\pl= .k (2*t))\/pl= .h i) (fun _=>False) False/\
  Inv C (St.get (u' ++σ)) a.tmps E' /\VR1 E' (aA (St.get (u' ++σ))) (.h i) 0 g cs (a.eval x)/\(∀s,aA (St.get (u++σ)) s->aA (St.get (u' ++σ)) s)/\
  (∀y∈cs,∀k c,¬y.speaks k c):=by
 obtain⟨b,u1,h1,h2⟩:=aC h;obtain⟨E',e1,e2,e3,e4,e5,e6⟩:=d9 hi i h1;cases b with
 |tup xs=>exact(aD h2).elim
 |none=>exact(aD h2).elim
 |v g ys=>
  obtain⟨rfl,rfl⟩:=aE h2;refine⟨E',g,e1,e2,e3,e4,VR1.imp (fun j x v _ hv=> ?_) e5,e6,fun y hy k c=> ?_⟩
  ·cases x with
   |sl f T xs=>cases f <;>first |exact hv|exact hv.one
   |eref k1 c1 p1 n T y off=>exact hv.one
   |apd k1 c1 p1 T xs=>exact hv.one
   |_=>exact hv
  ·obtain⟨z,_,rfl⟩:=Zk.1 hy;cases z with
   |sl f T xs=>cases f <;>exact id
   |_=>exact id
theorem wV(hi:Inv C (St.get (u++σ)) a.tmps E)(i:Nat){ty:TypeId}{x:Operand}{cs:List CV}(h:Mr (mD tt ty x) σ u=some (cs,u')):
 ∃E' g,E'.w=E.w/\E'.bx=E.bx/\Inv C (St.get (u' ++σ)) a.tmps E' /\VR1 E' (aA (St.get (u' ++σ))) (.h i) 0 g cs (a.eval x)/\(∀s,aA (St.get (u++σ)) s->aA (St.get (u' ++σ)) s):=by
 obtain⟨b,u1,h1,h2⟩:=aC h;obtain⟨E',e1,e2,e3,e4,e5,e6⟩:=d9 hi i h1;cases b with
 |tup xs=>exact(aD h2).elim
 |none=>exact(aD h2).elim
 |v g ys=>
  obtain⟨rfl,rfl⟩:=aE h2;exact⟨E',g,e1,e2,e4,e5,e6⟩
theorem pJ{bxs:Nat->Prop}{pl:Pl}{g:Bool}{cs:List CV}{v:Value}(h:VR1 E bxs pl 0 g cs v):VR1 E bxs pl 0 g (cs.map CV.noAl) v:=by
 refine VR1.imp (fun j x v _ hv=> ?_) h;cases x with
 |sl f T xs=>cases f <;>first |exact hv|exact hv.one
 |eref k1 c1 p1 n T y off=>exact hv.one
 |apd k1 c1 p1 T xs=>exact hv.one
 |_=>exact hv
theorem wO{cs:List CV}{y:CV}(hy:y∈cs.map CV.noAl)(k c:Nat):¬y.speaks k c:=by
 obtain⟨z,_,rfl⟩:=Zk.1 hy;cases z with
 |sl f T xs=>cases f <;>exact id
 |_=>exact id
end
end Go.Ab
end
section
namespace Go.Ab
variable [Inhabited Lb]
def gE:CV->Value->Bool
 | .int k n,.int k' m=>k==k' &&n==m
 | .bool b,.bool b' =>b==b'
 | .str s,.string t=>t.data.toList==s
 | .sl .own _ [],.slice none 0 0=>true
 | .val .nilFunc,.nilFunc=>true
 | .undef,v=>v.oneCell'
 |_,_=>false
def bB:List CV->List Value->Bool
 | [],[]=>true
 |x::xs,v::vs=>gE x v&&bB xs vs
 |_,_=>false
theorem zAd{x:CV}{v:Value}(h:gE x v=true)(E:Env)(bxs:Nat->Prop)(pl:Pl)(c:Nat):VRc E bxs pl c x v:=by
 unfold gE at h;split at h
 ·simp at h;obtain⟨rfl,rfl⟩:=h;exact rfl
 ·simp at h;subst h;exact rfl
 ·simp at h;exact⟨_,rfl,h⟩
 ·exact RdP.nil none 0 _ ⟨rfl,rfl⟩
 ·exact⟨rfl,rfl⟩
 ·exact h
 ·cases h
theorem kJ{xs:List CV}(E:Env)(bxs:Nat->Prop)(pl:Pl):∀ {vs:List Value} (c:Nat),bB xs vs=true->VRs E bxs pl c xs vs:=by
 induction xs with
 |nil=>intro vs c h;cases vs <;>simp_all [bB,VRs]
 |cons x xs ih=>
  intro vs c h;cases vs with
  |nil=>simp [bB] at h
  |cons v vs=>
   simp [bB] at h;exact⟨zAd h.1 E bxs pl c,ih _ h.2⟩
theorem kI{xs:List CV}:∀ {vs:List Value},bB xs vs=true->vs.length=xs.length:=by
 induction xs with
 |nil=>intro vs h;cases vs <;>simp_all [bB]
 |cons x xs ih=>
  intro vs h;cases vs with
  |nil=>simp [bB] at h
  |cons v vs=>simp [bB] at h;simp [ih h.2]
structure TIok (P:Program) (t:TypeId) (i:TI):Prop where
 info:∃ti d,P.info? t=some ti/\ti.size=i.sz/\P.underlying t=some d/\(match d with | .struct _=>true| .array _ _=>true|_=>false)=i.agg/\(i.agg=false->i.sz=1)/\
  (∀z,i.zero=some z->∃v,ti.zero=some v/\bB z v.cells.toList=true)
 fields:i.offs=[]\/∃fs:Array Field,P.underlying t=some (.struct fs)/\∀(f p:Nat),i.offs[f]? =some p->∃(fl:Field) (tj:TypeInfo),fs[f]? =some fl/\fl.offset=p/\P.info? fl.type=some tj/\tj.size≠0/\
  i.fsz[f]? =some tj.size
 built:∀z,i.zero=some z->i.agg=true->∃(fs:Array Field) (places:List (Nat×Nat)),P.underlying t=some (.struct fs)/\fs.toList.mapM (fun f=>(P.info? f.type).map fun j=>(f.offset,j.size))=some places/\
  ∀(f p n:Nat),i.offs[f]? =some p->i.fsz[f]? =some n->places[f]? =some (p,n)
 elem:∀e T,i.elem=some (e,T)->P.underlying t=some (.slice e)/\∃te v,P.info? e=some te/\te.size=T.sz/\0<te.bytes/\te.bytes<=256/\te.zero=some v/\
  bB (T.enc .own T.dflt) v.cells.toList=true
 u8:∀e,i.elem=some (e,.byte)->P.underlying e=some (.int .u8)
 ik:∀k,i.ik=some k->P.underlying t=some (.int k)
 str:i.isStr=true->P.underlying t=some .string
 bool:i.isBool=true->P.underlying t=some .bool
 fn:i.isFn=true->∃x y z,P.underlying t=some (.func x y z)
 same:i.same=true->∀(a b:Array Value) (w:World) (as bs:List CV) (r:Bool) (E:Env) (bxs:Nat->Prop) (pl:Pl),bR as bs=some r->fT i.zero as=true->fT i.zero bs=true->VRs E bxs pl 0 as a.toList->VRs E bxs pl 0 bs b.toList->
  ∀op,(op= .eql\/op= .neq)->∀x y,(do eqGuard op t x y (.agg a) (.agg b);binOp op t (.agg a) (.agg b):Sem Value).run P w= .ok (.bool (if op= .eql then r else !r)) w
def aO(P:Program)(tt:TT):Prop:=∀t i,tt.get t=some i->TIok P t i
end Go.Ab
end
section
namespace Go.Ab
variable [Inhabited Lb]
def Good(C:Ctx)(σ:St)(a:Act)(w:World)(o:Oper)(v:AV):Prop:=
 ∃val w',(execOp a.eval o).run C.P w= .ok (.value val) w' /\Hand C σ a.tmps w' 0 v val
section
variable {C:Ctx} {σ:St} {a:Act} {E:Env} {u u' :Ups} {tt:TT} {o:Oper} {md:Md} {v:AV} {ob:List Prop} {ty:TypeId}
theorem pN(hi:Inv C (St.get (u++σ)) a.tmps E){x:Operand}{r:AV}(h:Mr (opd tt md ty x) σ u=some (r,u')):
 Hand C (u' ++σ) a.tmps E.w 0 r (a.eval x):=by
 cases md with
 |cp=>obtain⟨rfl,hv⟩:=d8 hi h;exact⟨E,rfl,hi,hv _⟩
 |take=>obtain⟨E',e1,_,_,e4,e5,_⟩:=d9 hi 0 h;exact⟨E',e1,e4,e5⟩
 |ref=>
  cases x with
  |tmp t=>
   simp only [opd,rdK] at h;obtain⟨b,u1,h1,h2⟩:=aC h;obtain⟨rfl,rfl⟩:=bN h1;have ho:=hi.tmp t;cases hg:St.get (u1++σ) (2*t) with
   |none=>rw [hg] at h2;exact(aD h2).elim
   |tup xs=>rw [hg] at h2;exact(aD h2).elim
   |v g cs=>
    rw [hg] at h2 ho;obtain⟨rfl,rfl⟩:=aE h2;refine⟨E,rfl,hi,?_⟩;have key:∀(cs:List CV) (c:Nat) (vs:List Value),VRs E (aA (St.get (u' ++σ))) (.k (2*t)) c cs vs->VRs E (aA (St.get (u' ++σ))) (.h 0) c (cF (2*t) c cs) vs:=by
     intro cs
     induction cs with
     |nil=>intro c vs h;cases vs <;>simp_all [VRs,cF]
     |cons y ys ih=>
      intro c vs h;cases vs with
      |nil=>exact h.elim
      |cons w ws=>exact⟨h.1.alias,ih _ _ h.2⟩
    cases g with
    |true=>obtain⟨vs,e,hv⟩:=ho;exact⟨vs,e,key _ _ _ hv⟩
    |false=>exact key _ _ _ ho
  |const v=>obtain⟨rfl,rfl⟩:=aE h;exact⟨E,rfl,hi,lB tt ty v _⟩
  |func f=>obtain⟨rfl,rfl⟩:=aE h;exact⟨E,rfl,hi,⟨rfl,rfl⟩,trivial⟩
  |global g=>exact(aD h).elim
theorem bV{r:AV}(h:Mr (bU r) σ u=some ((v,ob),u')):v=r/\ob=[]/\u' =u:=by
 obtain⟨e,rfl⟩:=aE h;cases e;exact⟨rfl,rfl,rfl⟩
theorem aN{r:CV}{l:List Prop}(h:Mr (aG r l) σ u=some ((v,ob),u')):v= .v false [r]/\ob=l/\u' =u:=by
 obtain⟨e,rfl⟩:=aE h;cases e;exact⟨rfl,rfl,rfl⟩
theorem Good.cell{w:World}(hi:Inv C (St.get (u++σ)) a.tmps E)(hw:E.w=w){c:CV}{val:Value}(hr:(execOp a.eval o).run C.P w= .ok (.value val) w)
 (hc:VRc E (aA (St.get (u++σ))) (.h 0) 0 c val):Good C (u++σ) a w o (.v false [c]):=
 ⟨val,w,hr,E,hw,hi,hc,trivial⟩
theorem o8{w:World}(hi:Inv C (St.get (u++σ)) a.tmps E)(hw:E.w=w){x:Operand}(ho:o.op= .move x\/o.op= .assign x)(h:Mr (opd tt md ty x) σ u=some (v,u')):
 Good C (u' ++σ) a w o v:=by
 refine⟨a.eval x,w,?_,by rw [<-hw];exact pN hi h⟩;rcases ho with ho|ho <;>(unfold execOp;rw [ho];rfl)
theorem pU{w:World}(hi:Inv C (St.get (u++σ)) a.tmps E)(hw:E.w=w){c x y:Operand}{b:Bool}(hc:a.eval c= .bool b)(ho:o.op= .pick c x y)(h:Mr (opd tt md ty (if b then x else y)) σ u=some (v,u')):
 Good C (u' ++σ) a w o v:=by
 refine⟨a.eval (if b then x else y),w,?_,by rw [<-hw];exact pN hi h⟩;unfold execOp;rw [ho];cases b <;>simp [hc,asBool]
theorem wN{w:World}(hi:Inv C (St.get (u++σ)) a.tmps E)(hw:E.w=w){x:Operand}{s off:Nat}(ho:o.op= .nilCheck x)(h:Mr (opc tt ty x) σ u=some (.ptr s off,u')):
 Good C (u' ++σ) a w o (.v false [.ptr s off]):=by
 obtain⟨rfl,hv⟩:=bD hi h;have:=hv (.h 0) 0;refine Good.cell hi hw (val:=a.eval x) ?_ this;unfold execOp;rw [ho];simp [this.1]
theorem sU(hi:Inv C (St.get (u++σ)) a.tmps E):∀(xs:List Operand) (ss:List Nat) (u' :Ups),Mr (iV tt xs) σ u=some (ss,u')->
 u' =u/\xs.map a.eval=(ss.map fun s=>Value.pointer (some ⟨E.bx s,0,none⟩))/\∀s∈ss,aA (St.get (u++σ)) s:=by
 intro xs
 induction xs with
 |nil=>
  intro ss u' h;obtain⟨rfl,rfl⟩:=aE h;exact⟨rfl,rfl,fun s hs=>by cases hs⟩
 |cons x xs ih=>
  intro ss u' h;obtain⟨c,u1,h1,h2⟩:=aC h;obtain⟨rfl,hv⟩:=bD hi h1;split at h2
  ·rename_i s;obtain⟨ss',u2,h3,h4⟩:=aC h2;obtain⟨rfl,e1,e2⟩:=ih ss' u2 h3;obtain⟨rfl,rfl⟩:=aE h4;have hs:=hv (.h 0) 0;refine⟨rfl,?_,fun s' hs' => ?_⟩
   ·rw [ZX,ZX,e1,hs.1]
   ·rcases Zo.1 hs' with rfl|hs'
    ·exact hs.2
    ·exact e2 s' hs'
  ·exact(aD h2).elim
theorem vX{w:World}(hi:Inv C (St.get (u++σ)) a.tmps E)(hw:E.w=w){k:FuncId}{first caps:Array Operand}{ss:List Nat}(ho:o.op= .makeFunc (.func k) first caps)(hf:first.toList.isEmpty=true)(h:Mr (iV tt caps.toList) σ u=some (ss,u')):
 Good C (u' ++σ) a w o (.v false [.clo k ss]):=by
 obtain⟨rfl,e1,e2⟩:=sU hi _ _ _ h;have hf' :first= #[]:=by
  cases first with
  |mk l=>cases l with
   |nil=>rfl
   |cons x l=>cases hf
 have hv:VRc E (aA (St.get (u' ++σ))) (.h 0) 0 (.clo k ss) (.func (.func k) #[] (caps.map a.eval)):=by
  refine⟨?_,e2⟩;rw [<-e1];cases caps with
  |mk l=>simp
 refine Good.cell hi hw (val:= .func (.func k) #[] (caps.map a.eval)) ?_ hv;unfold execOp;rw [ho,hf'];simp [Instr.makeFunc]
theorem dG(t:ByteArray):t.data.toList.length=t.size:=by cases t;rfl
theorem sE{op:BinOp}{t:TypeId}{x' y' :Operand}{x y:CV}{vx vy:Value}{r:CV}(w:World)(h:eK op x y=some (r,ob))(hob:∀p∈ob,p)
 {E:Env} {bxs:Nat->Prop} {pl:Pl} {i:Nat} (hx:VRc E bxs pl i x vx) (hy:VRc E bxs pl i y vy):
 ∃val,(do eqGuard op t x' y' vx vy;binOp op t vx vy:Sem Value).run C.P w= .ok val w/\VRc E bxs pl i r val:=by
 have hg:∀k n v,(eqGuard op t x' y' (.int k n) v).run C.P w= .ok () w:=by intro k n v;unfold eqGuard;split <;>simp
 have hg2:∀s v,(eqGuard op t x' y' (.string s) v).run C.P w= .ok () w:=by intro k v;unfold eqGuard;split <;>simp
 cases x with
 |int k n=>
  cases y with
  |int k' n' =>
   obtain rfl:vx= .int k n:=hx;obtain rfl:vy= .int k' n' :=hy;simp only [Sem.run_bind,hg,Result.andThen_ok]
   cases op <;>simp only [eK] at h <;>(try split at h) <;>(try subst_vars) <;>(try (cases h;done)) <;>
    (try simp only [ZL,YT] at h) <;>(try (obtain⟨rfl,rfl⟩:=h)) <;>(try (simp at h;done))
   case int.int.add.isTrue=>exact⟨_,by first |(simp [binOp,Op.intArith];done) |(simp [binOp,Op.intArith];rfl),rfl⟩
   case int.int.sub.isTrue=>exact⟨_,by first |(simp [binOp,Op.intArith];done) |(simp [binOp,Op.intArith];rfl),rfl⟩
   case int.int.mul.isTrue=>exact⟨_,by first |(simp [binOp,Op.intArith];done) |(simp [binOp,Op.intArith];rfl),rfl⟩
   case int.int.quo.isTrue=>
    have:=hob _ (Zh.2 rfl);exact⟨_,by first |(simp [binOp,Op.intDiv,this];done) |(simp [binOp,Op.intDiv,this];rfl),rfl⟩
   case int.int.rem.isTrue=>
    have:=hob _ (Zh.2 rfl);exact⟨_,by first |(simp [binOp,Op.intDiv,this];done) |(simp [binOp,Op.intDiv,this];rfl),rfl⟩
   case int.int.and.isTrue=>exact⟨_,by first |(simp [binOp,Op.intBits];done) |(simp [binOp,Op.intBits];rfl),rfl⟩
   case int.int.xor.isTrue=>exact⟨_,by first |(simp [binOp,Op.intBits];done) |(simp [binOp,Op.intBits];rfl),rfl⟩
   case int.int.shl.isTrue=>
    have:=hob _ (Zh.2 rfl);have h1:¬n' <0:=by omega
    have h2:min n'.toNat (IntKind.u64).bits=n'.toNat:=by show min n'.toNat 64=n'.toNat;omega
    exact⟨_,by simp only [binOp,Op.shift,h1,if_false,h2];rfl,rfl⟩
   case int.int.shr.isTrue=>
    rename_i hk;have:=hob _ (Zh.2 rfl);have h1:¬n' <0:=by omega
    have h2:min n'.toNat (IntKind.bits k)=n'.toNat:=by
     have:IntKind.bits k=64:=by rcases hk with rfl|rfl <;>rfl
     rw [this];omega
    exact⟨_,by simp only [binOp,Op.shift,h1,if_false,h2];rfl,rfl⟩
   all_goals exact⟨_,by first |(simp [binOp,Op.intCmp];done) |(simp [binOp,Op.intCmp];rfl),rfl⟩
  |_=>simp [eK] at h
 |str s=>
  cases y with
  |str s' =>
   obtain⟨tx,rfl,rfl⟩:=hx;obtain⟨ty,rfl,rfl⟩:=hy;simp only [Sem.run_bind,hg2,Result.andThen_ok]
   cases op <;>simp only [eK] at h <;>(try (cases h;done)) <;>
    (try simp only [ZL,YT] at h) <;>(try (obtain⟨rfl,rfl⟩:=h)) <;>(try (simp at h;done))
   case str.str.add=>
    have:=hob _ (Zh.2 rfl);simp only [dG] at this;have h1:¬((tx.size+ty.size:Nat):Int)>IntKind.i64.max:=by show ¬((tx.size+ty.size:Nat):Int)>9223372036854775807;unfold Lim at this;omega
    refine⟨.string (tx++ty),by simp only [binOp,Op.stringOp,h1,if_false];rfl,_,rfl,by simp⟩
   all_goals exact⟨_,by simp only [binOp,Op.stringOp,ByteArray.toList_eq];rfl,rfl⟩
  |_=>simp [eK] at h
 |_=>simp [eK] at h
end
end Go.Ab
end
section
namespace Go.Ab
def bF(r:Result Value):Result Next:=r.andThen fun v w=> .ok (.value v) w
def yN(r:Result Unit):Result Next:=r.andThen fun _ w=> .ok .skip w
section
variable {P:Program} {ρ:Operand->Value} {o:Oper} {w:World}
theorem oB{op:UnOp}{t:TypeId}{x:Operand}(h:o.op= .unOp op t x):(execOp ρ o).run P w=bF ((Op.unary op (ρ x)).run P w):=by
 unfold execOp;rw [h];show(Op.unary op (ρ x) >>= fun v=>pure (.value v):Sem Next).run P w=_;rw [Sem.run_bind];rfl
theorem eN{op:BinOp}{t s:TypeId}{x y:Operand}(h:o.op= .binOp op t x y s):
 (execOp ρ o).run P w=bF ((do eqGuard op t x y (ρ x) (ρ y);binOp op t (ρ x) (ρ y):Sem Value).run P w):=by
 unfold execOp;rw [h];show((do eqGuard op t x y (ρ x) (ρ y);binOp op t (ρ x) (ρ y):Sem Value) >>= fun v=>pure (.value v):Sem Next).run P w=_;rw [Sem.run_bind];rfl
theorem tX{t:TypeId}{x y:Operand}(h:o.op= .index t x y):(execOp ρ o).run P w=bF ((Instr.index t (ρ x) (ρ y)).run P w):=by
 unfold execOp;rw [h];show(Instr.index t (ρ x) (ρ y) >>= fun v=>pure (.value v):Sem Next).run P w=_;rw [Sem.run_bind];rfl
theorem tY{t:TypeId}{x y:Operand}(h:o.op= .indexAddr t x y):(execOp ρ o).run P w=bF ((Instr.indexAt t (ρ x) (ρ y)).run P w):=by
 unfold execOp;rw [h];show(Instr.indexAt t (ρ x) (ρ y) >>= fun v=>pure (.value v):Sem Next).run P w=_;rw [Sem.run_bind];rfl
theorem tW{t:TypeId}{x:Operand}{f:Nat}(h:o.op= .fieldAddr t x f):(execOp ρ o).run P w=bF ((Instr.fieldAt t (ρ x) f).run P w):=by
 unfold execOp;rw [h];show(Instr.fieldAt t (ρ x) f >>= fun v=>pure (.value v):Sem Next).run P w=_;rw [Sem.run_bind];rfl
theorem lF{t:TypeId}{x:Operand}{lo hi mx:Option Operand}(h:o.op= .slice t x lo hi mx):
 (execOp ρ o).run P w=bF ((Instr.sliceAt t (ρ x) (lo.map ρ) (hi.map ρ) (mx.map ρ)).run P w):=by
 unfold execOp;rw [h];show(Instr.sliceAt t (ρ x) (lo.map ρ) (hi.map ρ) (mx.map ρ) >>= fun v=>pure (.value v):Sem Next).run P w=_;rw [Sem.run_bind];rfl
theorem n5{x:Operand}{i:Nat}(h:o.op= .extract x i):(execOp ρ o).run P w=bF ((Instr.extract (ρ x) i).run P w):=by
 unfold execOp;rw [h];show(Instr.extract (ρ x) i >>= fun v=>pure (.value v):Sem Next).run P w=_;rw [Sem.run_bind];rfl
theorem lE{s d:TypeId}{x:Operand}(h:o.op= .convert s d x):(execOp ρ o).run P w=bF ((convert s d (ρ x)).run P w):=by
 unfold execOp;rw [h];show(convert s d (ρ x) >>= fun v=>pure (.value v):Sem Next).run P w=_;rw [Sem.run_bind];rfl
theorem tZ{t:TypeId}{l c:Operand}(h:o.op= .makeSlice t l c):(execOp ρ o).run P w=bF ((Instr.makeSlice t (ρ l) (ρ c)).run P w):=by
 unfold execOp;rw [h];show(Instr.makeSlice t (ρ l) (ρ c) >>= fun v=>pure (.value v):Sem Next).run P w=_;rw [Sem.run_bind];rfl
theorem n8{t:TypeId}{x:Operand}(h:o.op= .load t x):(execOp ρ o).run P w=bF ((Instr.loadAt t (ρ x)).run P w):=by
 unfold execOp;rw [h];show(Instr.loadAt t (ρ x) >>= fun v=>pure (.value v):Sem Next).run P w=_;rw [Sem.run_bind];rfl
theorem lG{t:TypeId}{x y:Operand}(h:o.op= .store t x y):(execOp ρ o).run P w=yN ((Instr.storeAt t (ρ x) (ρ y)).run P w):=by
 unfold execOp;rw [h];show(Instr.storeAt t (ρ x) (ρ y) >>= fun _=>pure .skip:Sem Next).run P w=_;rw [Sem.run_bind];rfl
theorem tQ{t:TypeId}(h:o.op= .alloc t):(execOp ρ o).run P w=bF ((Instr.alloc t true (.tuple #[])).run P w):=by
 unfold execOp;rw [h];show(Instr.alloc t true (.tuple #[]) >>= fun v=>pure (.value v):Sem Next).run P w=_;rw [Sem.run_bind];rfl
theorem tT{t:TypeId}{x:Operand}(h:o.op= .box t x):(execOp ρ o).run P w=bF ((Instr.box t (ρ x)).run P w):=by
 unfold execOp;rw [h];show(Instr.box t (ρ x) >>= fun v=>pure (.value v):Sem Next).run P w=_;rw [Sem.run_bind];rfl
theorem tU{t:TypeId}{ps:Array (Nat×Operand)}(h:o.op= .build t ps):(execOp ρ o).run P w=bF ((Instr.build t (ps.map fun x=>(x.1,ρ x.2))).run P w):=by
 unfold execOp;rw [h];show(Instr.build t (ps.map fun x=>(x.1,ρ x.2)) >>= fun v=>pure (.value v):Sem Next).run P w=_;rw [Sem.run_bind];rfl
theorem tV{t:TypeId}{n:Nat}{ps:Array (Nat×Operand)}(h:o.op= .buildSlice t n ps):
 (execOp ρ o).run P w=bF ((Instr.buildSlice t n (ps.map fun x=>(x.1,ρ x.2))).run P w):=by
 unfold execOp;rw [h];show(Instr.buildSlice t n (ps.map fun x=>(x.1,ρ x.2)) >>= fun v=>pure (.value v):Sem Next).run P w=_;rw [Sem.run_bind];rfl
theorem n7{c:Call}(h:o.op= .call c)(hc:c.callee= .builtin .len):(execOp ρ o).run P w=bF ((Builtin.len_ c.argTypes o.type (c.args.map ρ)).run P w):=by
 unfold execOp;rw [h];show((resolve ρ c o.type >>= fun d=>invoke d.target d.args):Sem Next).run P w=_;simp only [resolve,hc,Sem.run_bind,Sem.run_pure,Result.andThen_ok,invoke];show(Builtin.len_ c.argTypes o.type (c.args.map ρ) >>= fun v=>pure (.value v):Sem Next).run P w=_;rw [Sem.run_bind];rfl
theorem nZ{c:Call}(h:o.op= .call c)(hc:c.callee= .builtin .append):(execOp ρ o).run P w=bF ((Builtin.append_ c.argTypes o.type (c.args.map ρ)).run P w):=by
 unfold execOp;rw [h];show((resolve ρ c o.type >>= fun d=>invoke d.target d.args):Sem Next).run P w=_;simp only [resolve,hc,Sem.run_bind,Sem.run_pure,Result.andThen_ok,invoke];show(Builtin.append_ c.argTypes o.type (c.args.map ρ) >>= fun v=>pure (.value v):Sem Next).run P w=_;rw [Sem.run_bind];rfl
theorem uA{c:Call}(h:o.op= .call c)(hc:c.callee= .builtin .min):(execOp ρ o).run P w=bF ((Builtin.min_ c.argTypes o.type (c.args.map ρ)).run P w):=by
 unfold execOp;rw [h];show((resolve ρ c o.type >>= fun d=>invoke d.target d.args):Sem Next).run P w=_;simp only [resolve,hc,Sem.run_bind,Sem.run_pure,Result.andThen_ok,invoke];show(Builtin.min_ c.argTypes o.type (c.args.map ρ) >>= fun v=>pure (.value v):Sem Next).run P w=_;rw [Sem.run_bind];rfl
theorem t8{c:Call}(h:o.op= .call c)(hc:c.callee= .builtin .max):(execOp ρ o).run P w=bF ((Builtin.max_ c.argTypes o.type (c.args.map ρ)).run P w):=by
 unfold execOp;rw [h];show((resolve ρ c o.type >>= fun d=>invoke d.target d.args):Sem Next).run P w=_;simp only [resolve,hc,Sem.run_bind,Sem.run_pure,Result.andThen_ok,invoke];show(Builtin.max_ c.argTypes o.type (c.args.map ρ) >>= fun v=>pure (.value v):Sem Next).run P w=_;rw [Sem.run_bind];rfl
theorem eH(v:Value)(w:World):bF (.ok v w)= .ok (.value v) w:=rfl
end
end Go.Ab
end
section
namespace Go.Ab
variable [Inhabited Lb]
theorem dF(b o n:Nat):(⟨b,o,none⟩:Addr).add n=⟨b,o+n,none⟩:=by unfold Addr.add;split <;>simp_all
section
variable {C:Ctx} {σ:St} {a:Act} {E:Env} {u u' u'' :Ups} {tt:TT} {o:Oper} {md:Md} {v:AV} {ob:List Prop} {ty:TypeId}
theorem aQ{α:Type}{c:Bool}{x:M α}{r:α×Ups}(h:Mr (cond c x bad) σ u=some r):c=true/\Mr x σ u=some r:=by
 cases c with
 |true=>exact⟨rfl,h⟩
 |false=>exact(aD h).elim
theorem zAa{w:World}(hi:Inv C (St.get (u++σ)) a.tmps E)(hw:E.w=w){op:UnOp}{t:TypeId}{x:Operand}(ho:o.op= .unOp op t x)
 {c:CV} (h:Mr (opc tt 0 x) σ u=some (c,u')) (h2:Mr (match op,c with | .not,.bool b=>aG (.bool (!b)) | .neg,.int k n=>aG (.int k (k.wrap (0 - n))) |_,_=>(bad:M Eff)) σ u' =some ((v,ob),u'')):
 Good C (u'' ++σ) a w o v:=by
 obtain⟨rfl,hv⟩:=bD hi h;have hx:=hv (.h 0) 0;split at h2
 ·obtain⟨rfl,_,rfl⟩:=aN h2;refine Good.cell hi hw (val:= .bool (!_)) ?_ rfl;rw [oB ho,show a.eval x=_ from hx];rfl
 ·obtain⟨rfl,_,rfl⟩:=aN h2;refine Good.cell hi hw (val:= .int _ _) ?_ rfl;rw [oB ho,show a.eval x=_ from hx];rfl
 ·exact(aD h2).elim
theorem uP(t:ByteArray)(n:Nat)(h:n<t.size):(t.data.toList.getD n 0)=t[n]:=by
 have:n<t.data.toList.length:=by rw [dG];exact h
 rw [ZW,Zx this];cases t;rfl
theorem vC{w:World}(htt:aO C.P tt)(hi:Inv C (St.get (u++σ)) a.tmps E)(hw:E.w=w){t:TypeId}{x ix:Operand}(ho:o.op= .index t x ix)
 {j:TI} (hj:tt.get t=some j) (hs:j.isStr=true) {s:Str} {k:IntKind} {i:Int} (hx:∀pl i,VRc E (aA (St.get (u++σ))) pl i (.str s) (a.eval x))
 (hy:∀pl i',VRc E (aA (St.get (u++σ))) pl i' (.int k i) (a.eval ix)) (hb:0<=i/\i<s.length):
 Good C (u++σ) a w o (.v false [.int .u8 ((s.getD i.toNat 0).toNat:Int)]):=by
 obtain⟨tx,e1,rfl⟩:=hx (.h 0) 0;have e2:a.eval ix= .int k i:=hy (.h 0) 0;have h1:C.P.underlying t=some .string:=(htt t j hj).str hs;have hb2:0<=i/\i<tx.size:=by rw [<-dG];exact hb
 refine Good.cell hi hw (val:= .int .u8 _) ?_ (by exact rfl);rw [tX ho,e1,e2,run_index_string w t tx k i h1,dif_pos hb2,uP _ _ (by omega)]
 rfl
theorem vG{w:World}(htt:aO C.P tt)(hi:Inv C (St.get (u++σ)) a.tmps E)(hw:E.w=w){c:Call}{t:TypeId}{x:Operand}(ho:o.op= .call c)(hc:c.callee= .builtin .len)
 (hargs:c.args.toList=[x]) (ht:c.argTypes.getD 0 0=t) (hat:c.argTypes.size=1) (h:Mr (lQ tt t x) σ u=some ((v,ob),u')):
 Good C (u' ++σ) a w o v:=by
 unfold lQ at h;split at h
 ·rename_i i hti;obtain⟨y,u1,h1,h2⟩:=aC h;obtain⟨rfl,hv⟩:=bD hi h1;have hx:=hv (.h 0) 0;have hA:c.args= #[x]:=by apply Y3;exact hargs
  have hT:c.argTypes= #[t]:=by
   apply Y3
   match hl:c.argTypes.toList,(by simpa using hat:c.argTypes.toList.length=1) with
   | [z],_=>
     have:c.argTypes= #[z]:=by apply Y3;exact hl
     rw [this] at ht;simp at ht;simp [ht]
  unfold oT at h2;split at h2
  ·obtain⟨hs,h2⟩:=aQ h2;obtain⟨rfl,_,rfl⟩:=aN h2;obtain⟨tx,e1,e2⟩:=hx;refine Good.cell hi hw (val:=goInt tx.size) ?_ (by rw [<-e2,dG];rfl);rw [n7 ho hc,hA,hT,show #[x].map a.eval= #[.string tx] from by simp [e1],run_len_string w t _ tx ((htt t i hti).str hs)];rfl
  ·obtain⟨hs,h2⟩:=aQ h2;obtain⟨rfl,_,rfl⟩:=aN h2;obtain⟨ad,cap,e1,_⟩:=RdP.shape hx;rw [Zr] at e1;obtain⟨⟨e,U⟩,hel⟩:∃p,i.elem=some p:=by
    unfold TI.isSlice at hs;split at hs
    ·exact⟨_,‹_›⟩
    ·cases hs
   have h1:=((htt t i hti).elem e U hel).1;have h1' :C.P.underlying t=some (.slice (C.P.elem t)):=by rw [h1];simp [Program.elem,h1]
   refine Good.cell hi hw (val:=goInt _) ?_ (by show _=Value.int _ _;rfl);rw [n7 ho hc,hA,hT,show #[x].map a.eval= #[.slice ad _ cap] from by rw [<-e1];simp,run_len_slice w t _ ad _ cap h1'];rfl
  ·exact(aD h2).elim
 ·exact(aD h).elim
theorem gT{i:TI}{T:Ty}(h:i.isOf T=true):∃e,i.elem=some (e,T):=by
 unfold TI.isOf at h;split at h
 ·rename_i e U hU;obtain rfl:U=T:=by simpa using h
  exact⟨e,hU⟩
 ·cases h
theorem uD{w:World}(htt:aO C.P tt)(hi:Inv C (St.get (u++σ)) a.tmps E)(hw:E.w=w){t:TypeId}{x:Operand}{f p:Nat}(ho:o.op= .fieldAddr t x f)
 {i:TI} (hti:tt.get t=some i) (hp:i.offs[f]? =some p) {c:CV} (h:Mr (opc tt 0 x) σ u=some (c,u'))
 (h2:Mr (match c with | .ptr s off=>aG (.ptr s (off+p)) | .eptr g T y off=>aG (.eptr g T y (off+p)) | .eref k c q j T y off=>aG (.eref k c q j T y (off+p)) |_=>(bad:M Eff)) σ u' =some ((v,ob),u'')):
 Good C (u'' ++σ) a w o v:=by
 obtain⟨rfl,hv⟩:=bD hi h;have hx:=hv (.h 0) 0;obtain⟨fs,e1,e2⟩:∃fs:Array Field,C.P.underlying t=some (.struct fs)/\∀(f p:Nat),i.offs[f]? =some p->∃(fl:Field) (tj:TypeInfo),fs[f]? =some fl/\fl.offset=p/\C.P.info? fl.type=some tj/\tj.size≠0/\i.fsz[f]? =some tj.size:=by
  rcases(htt t i hti).fields with h|h
  ·rw [h] at hp;simp at hp
  ·exact h
 obtain⟨fl,tj,g1,g2,g3,g4,_⟩:=e2 f p hp;have run:∀b o',a.eval x= .pointer (some ⟨b,o',none⟩)->(execOp a.eval o).run C.P w= .ok (.value (.pointer (some ⟨b,o' +p,none⟩))) w:=by
  intro b o' he;rw [tW ho,he];simp [Instr.fieldAt,run_underlying e1,g1,Instr.sureAddr,fieldPlace,sizeOf,typeInfo,g3,g4,dF,g2,eH]
 split at h2
 ·obtain⟨rfl,_,rfl⟩:=aN h2;exact Good.cell hi hw (run _ _ hx.1) ⟨rfl,hx.2⟩
 ·obtain⟨rfl,_,rfl⟩:=aN h2;obtain⟨hf,b,o',e,r⟩:=hx;refine Good.cell hi hw (run _ _ e) ⟨hf,b,o',?_,r⟩;rw [Yt]
 ·obtain⟨rfl,_,rfl⟩:=aN h2;obtain⟨b,e,r⟩:=hx;refine Good.cell hi hw (run _ _ e) ⟨b,?_,r⟩;rw [Yt]
 ·exact(aD h2).elim
theorem xU{P:Program}{w:World}{t e:TypeId}{te:TypeInfo}{b off n cap:Nat}{k:IntKind}{i:Int}(h:P.underlying t=some (.slice e))(he:P.info? e=some te)(hb:0<=i/\i<n):
 (Instr.indexAt t (.slice (some ⟨b,off,none⟩) n cap) (.int k i)).run P w= .ok (.pointer (some ⟨b,off+i.toNat*te.size,none⟩)) w:=by
 simp [Instr.indexAt,asIntOf,run_underlying h,hb,sizeOf,typeInfo,he,dF]
theorem vA{w:World}(htt:aO C.P tt)(hi:Inv C (St.get (u++σ)) a.tmps E)(hw:E.w=w){t:TypeId}{x ix:Operand}(ho:o.op= .indexAddr t x ix)
 {i:TI} (hti:tt.get t=some i) {c d:CV} (hc:∀pl i,VRc E (aA (St.get (u++σ))) pl i c (a.eval x))
 (hd:∀pl i,VRc E (aA (St.get (u++σ))) pl i d (a.eval ix)) (hs:fW i c=true) (h2:Mr (lM c d) σ u=some ((v,ob),u')) (hob:∀p∈ob,p):
 Good C (u' ++σ) a w o v:=by
 have core:∀(f:Fl) (T:Ty) (xs:List T.den) (k:IntKind) (n:Int),c= .sl f T xs->d= .int k n->0<=n/\n<xs.length->
  ∃b off,(execOp a.eval o).run C.P w= .ok (.value (.pointer (some ⟨b,off+n.toNat*T.sz,none⟩))) w/\
   (∃cap,a.eval x= .slice (some ⟨b,off,none⟩) xs.length cap/\qF E (.h 0) 0 f [] (a.eval x) T.sz)/\
   ∃uu:Nat->Value,∀j (hj:j<(T.toD (xs.getD n.toNat T.dflt)).length),E.w.cell? ⟨b,off+n.toNat*T.sz+j,none⟩=some (uu j)/\okF E (.h 0) 0 f [] b (off+n.toNat*T.sz+j)/\
    RdP E.w (fun p=>okF E (.h 0) 0 f ((n.toNat,j)::p)) (fun p=>qF E (.h 0) 0 f ((n.toNat,j)::p)) (uu j) ((T.toD (xs.getD n.toNat T.dflt))[j]):=by
  intro f T xs k n hcx hdx hn;subst hcx hdx;obtain⟨e,hel⟩:=gT hs;obtain⟨g1,te,vz,g2,g3,_⟩:=(htt t i hti).elem e T hel;have hx:RdP E.w _ _ (a.eval x) (.sl T.sz (xs.map T.toD)):=hc (.h 0) 0;obtain⟨b,off,cap,k1,k2,k3,k4,uu,k5,k6⟩:=hx.cells (by intro h;rw [List.map_eq_nil_iff] at h;rw [h] at hn;simp only [jN] at hn;omega);have hy:a.eval ix= .int k n:=hd (.h 0) 0;have hlen:(xs.map T.toD).length=xs.length:=Zr _;rw [hlen] at k1;have hlt:n.toNat<xs.length:=by omega
  refine⟨b,off,?_,⟨cap,k1,k4⟩,uu n.toNat,fun j hj=> ?_⟩
  ·rw [tY ho,k1,hy,xU g1 g2 hn,g3];rfl
  ·have hsz:(T.toD (xs.getD n.toNat T.dflt)).length=T.sz:=Ty.toD_length T _;have hg:xs.getD n.toNat T.dflt=xs[n.toNat]:=by rw [ZW,Zx hlt];rfl
   have q:=k5 n.toNat j (by rw [hlen];exact hlt) (by omega);refine⟨q.1,q.2,?_⟩;have:=k6 n.toNat j (by rw [hlen];exact hlt) (by simp only [Z7];rw [<-hg];exact hj);simp only [Z7] at this;simp only [hg];exact this
 unfold lM at h2;split at h2
 ·obtain⟨rfl,rfl,rfl⟩:=aN h2;have hn:=hob _ (Zh.2 rfl);obtain⟨b,off,r,⟨cap,e,ht⟩,uu,hu⟩:=core _ _ _ _ _ rfl rfl hn;rename_i k' c' p' T xs kk n;rw [e] at ht;have ht:Tip E (.arr (.k k') c' (p' ++ [])) (.slice (some ⟨b,off,none⟩) xs.length cap) T.sz:=ht;rw [Zb] at ht;unfold Tip at ht
  match off,ht with
  |0,ht=>
   obtain⟨t1,t2,t3,tcs,tty,tlo,thi,t4,t5,t6⟩:=ht;refine Good.cell hi hw r ⟨b,by simp,t1,?_,uu,fun j hj=>⟨by have:=(hu j hj).1;rwa [Zj] at this,(hu j hj).2.2⟩⟩;rw [t2];have:(n.toNat+1)<=xs.length:=by omega
   refine⟨ZJ _ this,fun o ho=> ?_⟩;have hle:xs.length*T.sz<=cap*T.sz:=ZJ _ t3;simp only [World.frozen?,t4];by_cases hlo:tlo<=o
   ·by_cases hhi:o<thi
    ·have:=t6 o hlo hhi;omega
    ·simp [hhi]
   ·simp [hlo]
 ·obtain⟨rfl,rfl,rfl⟩:=aN h2;have hn:=hob _ (Zh.2 rfl);obtain⟨b,off,r,_,uu,hu⟩:=core _ _ _ _ _ rfl rfl hn;exact Good.cell hi hw r ⟨.inl rfl,b,_,rfl,uu,fun j hj=>⟨(hu j hj).1,(hu j hj).2.1,(hu j hj).2.2⟩⟩
 ·obtain⟨rfl,rfl,rfl⟩:=aN h2;have hn:=hob _ (Zh.2 rfl);obtain⟨b,off,r,_,uu,hu⟩:=core _ _ _ _ _ rfl rfl hn;exact Good.cell hi hw r ⟨.inr rfl,b,_,rfl,uu,fun j hj=>⟨(hu j hj).1,(hu j hj).2.1,(hu j hj).2.2⟩⟩
 ·exact(aD h2).elim
end
end Go.Ab
end
section
namespace Go.Ab
variable [Inhabited Lb]
theorem VRc.part{E:Env}{bxs:Nat->Prop}{k:Pl}{c:Nat}{f:Fl}{T:Ty}{xs:List T.den}{v:Value}(h:VRc E bxs k c (.sl f T xs) v):VRc E bxs k c (.sl f.part T xs) v:=by
 have h:RdP E.w (okF E k c f) (qF E k c f) v (.sl T.sz (xs.map T.toD)):=h;cases f with
 |ro=>exact h
 |bor=>exact h
 |own=>exact h.mono (fun p b o ho=>⟨rfl,ho.1⟩) (fun _ _ _ _=>trivial)
 |tip=>exact h.mono (fun p b o ho=>⟨rfl,ho.1⟩) (fun _ _ _ _=>trivial)
 |lnt n=>exact h.mono (fun p b o ho=>⟨rfl,ho.1⟩) (fun _ _ _ _=>trivial)
 |al k' c' p' =>exact h.mono (fun p b o ho=>⟨rfl,ho.1⟩) (fun _ _ _ _=>trivial)
theorem wY{w:World}{ok:Nat->Nat->Prop}{v:Value}{sz:Nat}{rows:List (List D)}(h:RdP w (fun _=>ok) (fun _ _ _=>True) v (.sl sz rows)){l m:Nat}(hl:l<=m)(hm:m<=rows.length):
 ∀a cap,v= .slice a rows.length cap->RdP w (fun _=>ok) (fun _ _ _=>True) (.slice (if cap=l then a else a.map (·.add (l*sz))) (m - l) (cap - l)) (.sl sz ((rows.take m).drop l)):=by
 intro a cap hv;by_cases he:m - l=0
 ·have:(rows.take m).drop l=[]:=by apply XE;simp;omega
  rw [this,he];exact .nil _ _ _ trivial
 ·obtain⟨b,off,cap',e,hc,hr,_,u,h1,h2⟩:=h.cells (by intro h0;rw [h0] at hm;simp at hm;omega);rw [hv] at e;injection e with e1 _ e3;subst e1 e3;have hne:¬cap=l:=by omega
  rw [Zf hne];simp only [Option.map_some,dF];have hlen:((rows.take m).drop l).length=m - l:=by simp;omega
  refine .sl b (off+l*sz) (m - l) (cap - l) sz _ (fun i j=>u (l+i) j) hlen (by omega) (fun r hr' =>hr r (ZI (Ye hr'))) trivial (fun i j hi hj=> ?_) (fun i j hi hj=> ?_)
  ·have:=h1 (l+i) j (by omega) hj;rw [show off+(l+i)*sz+j=off+l*sz+i*sz+j from by rw [ZM];omega] at this;exact this
  ·have hi' :i<m - l:=by omega
   have e:((rows.take m).drop l)[i]=rows[l+i]:=by simp
   have:=h2 (l+i) j (by omega) (by rw [<-e];exact hj);simp only [e];exact this
theorem dU{P:Program}{w:World}{k:IntKind}{i:Int}{y:Nat}{code:BoundsCode}(h:0<=i/\i<=y):(Instr.sliceBound (.int k i) y code).run P w= .ok i.toNat w:=by
 simp [Instr.sliceBound,asIntOf,h]
section
variable {C:Ctx} {σ:St} {a:Act} {E:Env} {u u' u'' :Ups} {tt:TT} {o:Oper} {md:Md} {v:AV} {ob:List Prop} {ty:TypeId}
theorem pQ(hi:Inv C (St.get (u++σ)) a.tmps E){x:Option Operand}{r:Option CV}(h:Mr (kE tt x) σ u=some (r,u')):
 u' =u/\match r with
  |some c=>∃y,x=some y/\∀pl i,VRc E (aA (St.get (u++σ))) pl i c (a.eval y)
  |none=>x=none:=by
 unfold kE at h;split at h
 ·obtain⟨c,u1,h1,h2⟩:=aC h;obtain⟨rfl,hv⟩:=bD hi h1;obtain⟨rfl,rfl⟩:=aE h2;exact⟨rfl,_,rfl,hv⟩
 ·obtain⟨rfl,rfl⟩:=aE h;exact⟨rfl,rfl⟩
theorem yC{w:World}(htt:aO C.P tt)(hi:Inv C (St.get (u++σ)) a.tmps E)(hw:E.w=w){t:TypeId}{x:Operand}{lo hi' :Option Operand}(ho:o.op= .slice t x lo hi' none)
 {i:TI} (hti:tt.get t=some i) {c:CV} (hc:∀pl i,VRc E (aA (St.get (u++σ))) pl i c (a.eval x)) (hfit:fW i c=true)
 {l h:Option CV} (hl:match l with |some c=>∃y,lo=some y/\∀pl i,VRc E (aA (St.get (u++σ))) pl i c (a.eval y) |none=>lo=none)
 (hh:match h with |some c=>∃y,hi' =some y/\∀pl i,VRc E (aA (St.get (u++σ))) pl i c (a.eval y) |none=>hi' =none)
 {r:CV} (hr:mN c l h=some (r,ob)) (hob:∀p∈ob,p):Good C (u++σ) a w o (.v false [r]):=by
 have str:∀(s:Str) (l m:Nat) (lov hiv:Option Value),c= .str s->l<=m->m<=s.length->lo.map a.eval=lov->hi'.map a.eval=hiv->
  (hiv=none/\m=s.length\/∃k,hiv=some (.int k m))->(lov=none/\l=0\/∃k,lov=some (.int k l))->Good C (u++σ) a w o (.v false [.str ((s.take m).drop l)]):=by
  intro s l m lov hiv hcs hlm hm hlov hhiv h1 h2;subst hcs;obtain⟨tx,e1,e2⟩:=hc (.h 0) 0;have hs:C.P.underlying t=some .string:=(htt t i hti).str hfit;have hsz:tx.size=s.length:=by rw [<-e2,dG]
  refine Good.cell hi hw (val:= .string (tx.extract l m)) ?_ ⟨_,rfl,?_⟩
  ·rw [lF ho,hlov,hhiv,e1];have hb:(Instr.sliceBounds false tx.size tx.size lov hiv none).run C.P w= .ok (l,m,tx.size) w:=by
    rcases h1 with ⟨rfl,h1⟩|⟨k1,rfl⟩ <;>rcases h2 with ⟨rfl,h2⟩|⟨k2,rfl⟩
    ·simp [Instr.sliceBounds,h1,h2,hsz]
    ·have:=dU (P:=C.P) (w:=w) (k:=k2) (i:=(l:Int)) (y:=tx.size) (code:= .sliceB) ⟨by omega,by omega⟩;rw [hsz] at this;simp [Instr.sliceBounds,this,h1,hsz]
    ·have:=dU (P:=C.P) (w:=w) (k:=k1) (i:=(m:Int)) (y:=tx.size) (code:= .sliceAlen) ⟨by omega,by omega⟩;simp [Instr.sliceBounds,this,h2]
    ·have g1:=dU (P:=C.P) (w:=w) (k:=k1) (i:=(m:Int)) (y:=tx.size) (code:= .sliceAlen) ⟨by omega,by omega⟩;have g2:=dU (P:=C.P) (w:=w) (k:=k2) (i:=(l:Int)) (y:=m) (code:= .sliceB) ⟨by omega,by omega⟩;simp [Instr.sliceBounds,g1,g2]
   simp [Instr.sliceAt,run_underlying hs,Instr.slice,hb,eH]
  ·rw [ByteArray.data_extract,Array.toList_extract,e2,List.drop_take]
 have sli:∀(f:Fl) (T:Ty) (xs:List T.den) (l m:Nat) (lov hiv:Option Value),c= .sl f T xs->l<=m->m<=xs.length->lo.map a.eval=lov->hi'.map a.eval=hiv->
  (hiv=none/\m=xs.length\/∃k,hiv=some (.int k m))->(lov=none/\l=0\/∃k,lov=some (.int k l))->Good C (u++σ) a w o (.v false [.sl f.part T ((xs.take m).drop l)]):=by
  intro f T xs l m lov hiv hcs hlm hm hlov hhiv h1 h2;subst hcs;have hx:=(hc (.h 0) 0).part;obtain⟨e,hel⟩:=gT hfit;obtain⟨g1,te,vz,g2,g3,_⟩:=(htt t i hti).elem e T hel;have hx' :RdP E.w (okF E (.h 0) 0 f.part) (qF E (.h 0) 0 f.part) (a.eval x) (.sl T.sz (xs.map T.toD)):=hx;obtain⟨ad,cap,e1,hcap⟩:=hx'.shape;rw [Zr] at e1 hcap;have hres:RdP E.w (okF E (.h 0) 0 f.part) (qF E (.h 0) 0 f.part) (.slice (if cap=l then ad else ad.map (·.add (l*T.sz))) (m - l) (cap - l)) (.sl T.sz (((xs.map T.toD).take m).drop l)):=by
   cases f <;>exact wY hx' hlm (by rw [Zr];exact hm) ad cap (by rw [Zr];exact e1)
  rw [<-List.map_take,<-List.map_drop] at hres;refine Good.cell hi hw (val:=_) ?_ hres;rw [lF ho,hlov,hhiv,e1];have hb:(Instr.sliceBounds true xs.length cap lov hiv none).run C.P w= .ok (l,m,cap) w:=by
   rcases h1 with ⟨rfl,h1⟩|⟨k1,rfl⟩ <;>rcases h2 with ⟨rfl,h2⟩|⟨k2,rfl⟩
   ·simp [Instr.sliceBounds,h1,h2]
   ·have:=dU (P:=C.P) (w:=w) (k:=k2) (i:=(l:Int)) (y:=xs.length) (code:= .sliceB) ⟨by omega,by omega⟩;simp [Instr.sliceBounds,this,h1]
   ·have:=dU (P:=C.P) (w:=w) (k:=k1) (i:=(m:Int)) (y:=cap) (code:= .sliceAcap) ⟨by omega,by omega⟩;simp [Instr.sliceBounds,this,h2]
   ·have g1:=dU (P:=C.P) (w:=w) (k:=k1) (i:=(m:Int)) (y:=cap) (code:= .sliceAcap) ⟨by omega,by omega⟩;have g2:=dU (P:=C.P) (w:=w) (k:=k2) (i:=(l:Int)) (y:=m) (code:= .sliceB) ⟨by omega,by omega⟩;simp [Instr.sliceBounds,g1,g2]
  simp [Instr.sliceAt,run_underlying g1,Instr.slice,hb,sizeOf,typeInfo,g2,g3,eH]
 unfold mN at hr;split at hr
 ·
  injection hr with hr;injection hr with e1 e2;subst e1 e2;obtain⟨y1,rfl,hy1⟩:=hl;obtain⟨y2,rfl,hy2⟩:=hh;obtain⟨q1,q2,q3⟩:=hob _ (Zh.2 rfl);rename_i s k1 l' k2 h';refine str s l'.toNat h'.toNat _ _ rfl (by omega) (by omega) rfl rfl (.inr ⟨k2,?_⟩) (.inr ⟨k1,?_⟩)
  ·rw [Option.map_some,show a.eval y2= .int k2 h' from hy2 (.h 0) 0,ZA (by omega)]
  ·rw [Option.map_some,show a.eval y1= .int k1 l' from hy1 (.h 0) 0,ZA (by omega)]
 ·injection hr with hr;injection hr with e1 e2;subst e1 e2;obtain⟨y1,rfl,hy1⟩:=hl;obtain⟨q1,q2⟩:=hob _ (Zh.2 rfl);rename_i s k1 l';have:=str s l'.toNat s.length _ _ rfl (by omega) (Zi _) rfl rfl (.inl ⟨by rw [hh];rfl,rfl⟩) (.inr ⟨k1,by rw [Option.map_some,show a.eval y1= .int k1 l' from hy1 (.h 0) 0,ZA (by omega)]⟩)
  rwa [ZK] at this
 ·injection hr with hr;injection hr with e1 e2;subst e1 e2;obtain⟨y2,rfl,hy2⟩:=hh;obtain⟨q1,q2⟩:=hob _ (Zh.2 rfl);rename_i s k2 h';exact str s 0 h'.toNat _ _ rfl (by omega) (by omega) rfl rfl (.inr ⟨k2,by rw [Option.map_some,show a.eval y2= .int k2 h' from hy2 (.h 0) 0,ZA (by omega)]⟩) (.inl ⟨by rw [hl];rfl,rfl⟩)
 ·injection hr with hr;injection hr with e1 e2;subst e1 e2;rename_i s;have:=str s 0 s.length _ _ rfl (by omega) (Zi _) rfl rfl (.inl ⟨by rw [hh];rfl,rfl⟩) (.inl ⟨by rw [hl];rfl,rfl⟩)
  rwa [ZK] at this
 ·injection hr with hr;injection hr with e1 e2;subst e1 e2;obtain⟨y1,rfl,hy1⟩:=hl;obtain⟨y2,rfl,hy2⟩:=hh;obtain⟨q1,q2,q3⟩:=hob _ (Zh.2 rfl);rename_i f T xs k1 l' k2 h';refine sli f T xs l'.toNat h'.toNat _ _ rfl (by omega) (by omega) rfl rfl (.inr ⟨k2,?_⟩) (.inr ⟨k1,?_⟩)
  ·rw [Option.map_some,show a.eval y2= .int k2 h' from hy2 (.h 0) 0,ZA (by omega)]
  ·rw [Option.map_some,show a.eval y1= .int k1 l' from hy1 (.h 0) 0,ZA (by omega)]
 ·injection hr with hr;injection hr with e1 e2;subst e1 e2;obtain⟨y1,rfl,hy1⟩:=hl;obtain⟨q1,q2⟩:=hob _ (Zh.2 rfl);rename_i f T xs k1 l';have:=sli f T xs l'.toNat xs.length _ _ rfl (by omega) (Zi _) rfl rfl (.inl ⟨by rw [hh];rfl,rfl⟩) (.inr ⟨k1,by rw [Option.map_some,show a.eval y1= .int k1 l' from hy1 (.h 0) 0,ZA (by omega)]⟩)
  rwa [ZK] at this
 ·injection hr with hr;injection hr with e1 e2;subst e1 e2;obtain⟨y2,rfl,hy2⟩:=hh;obtain⟨q1,q2⟩:=hob _ (Zh.2 rfl);rename_i f T xs k2 h';exact sli f T xs 0 h'.toNat _ _ rfl (by omega) (by omega) rfl rfl (.inr ⟨k2,by rw [Option.map_some,show a.eval y2= .int k2 h' from hy2 (.h 0) 0,ZA (by omega)]⟩) (.inl ⟨by rw [hl];rfl,rfl⟩)
 ·injection hr with hr;injection hr with e1 e2;subst e1 e2;rename_i f T xs;have:=sli f T xs 0 xs.length _ _ rfl (by omega) (Zi _) rfl rfl (.inl ⟨by rw [hh];rfl,rfl⟩) (.inl ⟨by rw [hl];rfl,rfl⟩)
  rwa [ZK] at this
 ·cases hr
end
end Go.Ab
end
section
namespace Go.Ab
variable [Inhabited Lb]
theorem qH{P:Program}{w:World}(d:Nat){t:TypeId}(h:P.underlying t=some .bool)(a b:Bool):(Op.equalIn (d+1) t (.bool a) (.bool b)).run P w= .ok (a==b) w:=by
 simp [Op.equalIn,run_underlying h]
theorem xR{P:Program}{w:World}{t:TypeId}(h:P.underlying t=some .bool)(a b:Bool):(binOp .eql t (.bool a) (.bool b)).run P w= .ok (.bool (a==b)) w:=by
 simp only [binOp];simp [Op.equal,Op.maxDepth,qH 9999 h]
theorem xV{P:Program}{w:World}{t:TypeId}(h:P.underlying t=some .bool)(a b:Bool):(binOp .neq t (.bool a) (.bool b)).run P w= .ok (.bool (!(a==b))) w:=by
 simp only [binOp];simp [Op.equal,Op.maxDepth,qH 9999 h]
theorem xS{P:Program}{w:World}(d:Nat){t:TypeId}{f1 f2:Array TypeId}{f3:Bool}(h:P.underlying t=some (.func f1 f2 f3))(k:FuncId)(a b:Array Value):(Op.equalIn (d+1) t (.func (.func k) a b) .nilFunc).run P w= .ok false w:=by
 simp [Op.equalIn,run_underlying h]
theorem xT{P:Program}{w:World}(d:Nat){t:TypeId}{f1 f2:Array TypeId}{f3:Bool}(h:P.underlying t=some (.func f1 f2 f3)):(Op.equalIn (d+1) t .nilFunc .nilFunc).run P w= .ok true w:=by
 simp [Op.equalIn,run_underlying h]
theorem fnNil_run{P:Program}{w:World}{t:TypeId}{f1 f2:Array TypeId}{f3:Bool}(h:P.underlying t=some (.func f1 f2 f3)){E:Env}{bxs:Nat->Prop}{pl:Pl}{i:Nat}{x y:CV}{vx vy:Value}{r:Bool}(hr:fnNil x y=some r)
 (hx:VRc E bxs pl i x vx) (hy:VRc E bxs pl i y vy) (op:BinOp) (x' y' :Operand) (hop:op= .eql\/op= .neq):(do eqGuard op t x' y' vx vy;binOp op t vx vy:Sem Value).run P w= .ok (.bool (if op= .eql then r else !r)) w:=by
 have hg:∀op a b,(match a with | .func _ _ _=>True| .nilFunc=>True|_=>False)->(eqGuard op t x' y' a b).run P w= .ok () w:=by
  intro op a b ha;unfold eqGuard;cases a <;>first |exact ha.elim|(split <;>simp)
 unfold fnNil at hr;split at hr
 ·cases hr;obtain⟨rfl,_⟩:=hx;obtain⟨rfl,_⟩:=hy;rw [Sem.run_bind,hg _ _ _ trivial,Result.andThen_ok];rcases hop with rfl|rfl <;>simp only [binOp] <;>simp [Op.equal,Op.maxDepth,xS 9999 h]
 ·cases hr;obtain⟨rfl,_⟩:=hx;obtain⟨rfl,_⟩:=hy;rw [Sem.run_bind,hg _ _ _ trivial,Result.andThen_ok];rcases hop with rfl|rfl <;>simp only [binOp] <;>simp [Op.equal,Op.maxDepth,xT 9999 h]
 ·cases hr
section
variable {C:Ctx} {σ:St} {a:Act} {E:Env} {u u' u'' :Ups} {tt:TT} {o:Oper} {md:Md} {v:AV} {ob:List Prop} {ty:TypeId}
theorem sF{w:World}(htt:aO C.P tt)(hi:Inv C (St.get (u++σ)) a.tmps E)(hw:E.w=w){op:BinOp}{t s:TypeId}{x y:Operand}(ho:o.op= .binOp op t x y s)
 {p q:AV} (hx:∀pl,VR E (aA (St.get (u++σ))) pl p (a.eval x)) (hy:∀pl,VR E (aA (St.get (u++σ))) pl q (a.eval y))
 (h:Mr (kV tt op t p q) σ u=some ((v,ob),u')) (hob:∀p∈ob,p):Good C (u' ++σ) a w o v:=by
 replace hx:=hx (.h 0)
 replace hy:=hy (.h 0)
 unfold kV at h;split at h
 ·rename_i b1 b2;have e1:a.eval x= .bool b1:=hx.1;have e2:a.eval y= .bool b2:=hy.1;split at h
  ·rename_i i hti;obtain⟨hb,h⟩:=aQ h;have hu:=(htt t i hti).bool hb;have hg:∀op,(eqGuard op t x y (.bool b1) (.bool b2)).run C.P w= .ok () w:=by intro op;unfold eqGuard;split <;>simp
   split at h
   ·obtain⟨rfl,_,rfl⟩:=aN h;refine Good.cell hi hw (val:= .bool (b1==b2)) ?_ rfl;rw [eN ho,e1,e2,Sem.run_bind,hg,Result.andThen_ok,xR hu];rfl
   ·obtain⟨rfl,_,rfl⟩:=aN h;refine Good.cell hi hw (val:= .bool (!(b1==b2))) ?_ rfl;rw [eN ho,e1,e2,Sem.run_bind,hg,Result.andThen_ok,xV hu];rfl
   ·exact(aD h).elim
  ·exact(aD h).elim
 ·split at h
  ·rename_i r hr;split at h
   ·rename_i i hti;obtain⟨hb,h⟩:=aQ h;obtain⟨f1,f2,f3,hu⟩:=(htt t i hti).fn hb;have hs:=fun op hop=>fnNil_run (P:=C.P) (w:=w) hu hr hx.1 hy.1 op x y hop;split at h
    ·obtain⟨rfl,_,rfl⟩:=aN h;refine Good.cell hi hw (val:= .bool r) ?_ rfl;rw [eN ho,hs _ (.inl rfl)];rfl
    ·obtain⟨rfl,_,rfl⟩:=aN h;refine Good.cell hi hw (val:= .bool (!r)) ?_ rfl;rw [eN ho,hs _ (.inr rfl)];rfl
    ·exact(aD h).elim
   ·exact(aD h).elim
  obtain⟨r,u1,h1,h2⟩:=aC h;obtain⟨r,ob'⟩:=r;obtain⟨hbin,rfl⟩:=cX h1;obtain⟨rfl,rfl,rfl⟩:=aN h2;obtain⟨val,e,hv⟩:=sE (C:=C) (t:=t) (x' :=x) (y' :=y) w hbin hob hx.1 hy.1;exact Good.cell hi hw (by rw [eN ho,e];rfl) hv
 ·split at h
  ·rename_i as bs _ _ i r hti hr;obtain⟨hb,h⟩:=aQ h;rw [Zv,Zv] at hb;obtain⟨⟨hb,hl1⟩,hl2⟩:=hb;obtain⟨vs,e1,hx⟩:=hx;obtain⟨ws,e2,hy⟩:=hy;have hs:=(htt t i hti).same hb vs ws w as bs r E (aA (St.get (u++σ))) (.h 0) hr hl1 hl2 hx hy op;split at h
   ·obtain⟨rfl,_,rfl⟩:=aN h;refine Good.cell hi hw (val:= .bool r) ?_ rfl;rw [eN ho,e1,e2,hs (.inl rfl)];rfl
   ·obtain⟨rfl,_,rfl⟩:=aN h;refine Good.cell hi hw (val:= .bool (!r)) ?_ rfl;rw [eN ho,e1,e2,hs (.inr rfl)];rfl
   ·exact(aD h).elim
  ·exact(aD h).elim
 ·exact(aD h).elim
theorem o7{w:World}(hi:Inv C (St.get (u++σ)) a.tmps E)(hw:E.w=w){c:Call}{x y:Operand}(ho:o.op= .call c)(hargs:c.args.toList=[x,y])
 {k k' :IntKind} {n m:Int} (hx:∀pl i,VRc E (aA (St.get (u++σ))) pl i (.int k n) (a.eval x)) (hy:∀pl i,VRc E (aA (St.get (u++σ))) pl i (.int k' m) (a.eval y)):
 (c.callee= .builtin .min->Good C (u++σ) a w o (.v false [.int k (if m<n then m else n)]))/\(c.callee= .builtin .max->Good C (u++σ) a w o (.v false [.int k (if m>n then m else n)])):=by
 have e1:a.eval x= .int k n:=hx (.h 0) 0;have e2:a.eval y= .int k' m:=hy (.h 0) 0;have hA:c.args.map a.eval= #[.int k n,.int k' m]:=by apply Y3;simp [hargs,e1,e2]
 refine⟨fun hc=>Good.cell hi hw (val:= .int k (if m<n then m else n)) ?_ rfl,fun hc=>Good.cell hi hw (val:= .int k (if m>n then m else n)) ?_ rfl⟩
 ·rw [uA ho hc,hA];simp [Builtin.min_,Builtin.min2,eH]
 ·rw [t8 ho hc,hA];simp [Builtin.max_,Builtin.max2,eH]
def dA(q c0 m i:Nat):Own->Option Own
 | .arr (.k k) c p=>if k=q/\c0<=c/\c<c0+m then some (.arr (.h i) (c - c0) p) else some (.arr (.k k) c p)
 | .arr (.h j) c p=>if j=i then none else some (.arr (.h j) c p)
 | .box s=>some (.box s)
def dkR(q c0 m i:Nat):Pl->Nat->Prop:=fun pl c=>(pl= .k q/\c0<=c/\c<c0+m)\/pl= .h i
theorem pW(q c0 m i:Nat):RhoOk (dA q c0 m i) (dkR q c0 m i) where
 box:=fun _=>rfl
 id:=fun k c p h=>by
  unfold dkR at h;cases k with
  |k n=>
   have:¬(n=q/\c0<=c/\c<c0+m):=fun e=>h (.inl ⟨by rw [e.1],e.2⟩);simp only [dA,Zf this]
  |h n=>have:n≠i:=fun e=>h (.inr (by rw [e]));simp [dA,this]
 inj:=fun l1 l2 l h1 h2=>by
  unfold dA at h1 h2;split at h1 <;>split at h2 <;>(repeat' split at h1) <;>(repeat' split at h2) <;>simp_all <;>(try (subst h1;simp_all)) <;>omega
 arr:=fun k c p s=>by
  cases k <;>simp only [dA] <;>split <;>simp
theorem mW{bxs:Nat->Prop}{pl:Pl}:∀ {xs:List (Bool×List CV)} {c:Nat} {vs:List Value} {i:Nat} {y:Bool×List CV},VRt E bxs pl c xs vs->xs[i]? =some y->
 ∃v,vs[i]? =some v/\VR1 E bxs pl (c+((xs.take i).map fun z=>z.2.length).sum) y.1 y.2 v:=by
 intro xs
 induction xs with
 |nil=>intro c vs i y _ h;simp at h
 |cons x xs ih=>
  intro c vs i y hv h;cases vs with
  |nil=>exact hv.elim
  |cons v vs=>
   cases i with
   |zero=>simp at h;subst h;exact⟨v,rfl,by simpa using hv.1⟩
   |succ i=>
    obtain⟨v',h1,h2⟩:=ih hv.2 (by simpa using h);refine⟨v',by simpa using h1,?_⟩;have e:c+x.2.length+((xs.take i).map fun z=>z.2.length).sum=c+(((x::xs).take (i+1)).map fun z=>z.2.length).sum:=by simp;omega
    rw [<-e];exact h2
theorem kB(x:CV)(k c:Nat):¬x.noAl.speaks k c:=by
 cases x with
 |sl f T xs=>cases f <;>exact id
 |_=>exact id
theorem l9{dk:Pl->Nat->Prop}{pl:Pl}{c:Nat}{x:CV}(h:x.owning=true->¬dk pl c):CW dk False pl c x.noAl x:=by
 cases x with
 |sl f T xs=>cases f <;>first |exact .inl rfl|exact .inr ⟨rfl,h,fun _ _ h=>h.elim,fun _ h=>h⟩
 |eref k c p i T x off=>exact .inl rfl
 |apd k c p T xs=>exact .inl rfl
 |_=>exact .inr ⟨rfl,h,fun _ _ h=>h.elim,fun _ h=>h⟩
theorem pH{dk:Pl->Nat->Prop}{pl:Pl}{c:Nat}{x:CV}:CW dk False pl c x.noAl.left x:=by
 cases x with
 |sl f T xs=>cases f <;>first |exact .inl rfl|exact .inr ⟨rfl,fun h=>by simp [CV.owning] at h,fun _ _ h=>h.elim,fun _ h=>h⟩
 |eref k c p i T x off=>exact .inl rfl
 |apd k c p T xs=>exact .inl rfl
 |_=>exact .inr ⟨rfl,fun h=>by simp [CV.owning] at h,fun _ _ h=>h.elim,fun _ h=>h⟩
theorem tG{q m:Nat}:∀ {xs:List (Bool×List CV)} {c i c0:Nat} {y:Bool×List CV},(xs.map fun x=>(x.1,x.2.map CV.noAl))[i]? =some y->c0=c+((xs.take i).map fun z=>z.2.length).sum->m=y.2.length->
 CWt (dkR q c0 m 0) False (.k q) c ((xs.map fun x=>(x.1,x.2.map CV.noAl)).set i (y.1,y.2.map CV.left)) xs:=by
 intro xs
 induction xs with
 |nil=>intro c i c0 y h;simp at h
 |cons x xs ih=>
  intro c i c0 y h hc hm;cases i with
  |zero=>
   simp at h;subst h;simp at hc hm;subst hc hm;simp only [ZX,List.set_cons_zero,Yb];refine .cons (CWs.map (f:=CV.left ∘ CV.noAl) (fun c x=>pH) _ _) ?_;have key:∀(zs:List (Bool×List CV)) (d:Nat),c0+x.2.length<=d->CWt (dkR q c0 x.2.length 0) False (.k q) d (zs.map fun x=>(x.1,x.2.map CV.noAl)) zs:=by
    intro zs
    induction zs with
    |nil=>exact fun _ _=> .nil
    |cons z zs ihz=>
     intro d hd;refine .cons ?_ (ihz _ (by omega));have kk:∀(ws:List CV) (e:Nat),d<=e->CWs (dkR q c0 x.2.length 0) False (.k q) e (ws.map CV.noAl) ws:=by
      intro ws
      induction ws with
      |nil=>exact fun _ _=> .nil
      |cons w ws ihw=>
       intro e he;refine .cons (l9 fun _ hk=> ?_) (ihw _ (by omega));rcases hk with ⟨_,_,h3⟩|h
       ·omega
       ·cases h
     exact kk _ _ (Zi _)
   exact key _ _ (Zi _)
  |succ i=>
   simp only [ZX,List.set_cons_succ];have hc' :c+x.2.length<=c0:=by simp at hc;omega
   refine .cons ?_ (ih (by simpa using h) (by simp at hc ⊢;omega) hm);have kk:∀(ws:List CV) (e:Nat),e+ws.length<=c0->CWs (dkR q c0 m 0) False (.k q) e (ws.map CV.noAl) ws:=by
    intro ws
    induction ws with
    |nil=>exact fun _ _=> .nil
    |cons w ws ihw=>
     intro e he;simp at he;refine .cons (l9 fun _ hk=> ?_) (ihw _ (by omega));rcases hk with ⟨_,h2,_⟩|h
     ·omega
     ·cases h
   exact kk _ _ hc'
theorem uB{w:World}(hi:Inv C (St.get (u++σ)) a.tmps E)(hw:E.w=w){t i:Nat}(ho:o.op= .extract (.tmp t) i){ys:List (Bool×List CV)}(hg:St.get (u++σ) (2*t)= .tup ys)
 {x:Bool×List CV} (hx:ys[i]? =some x):Good C (u++σ) a w o (.v x.1 (x.2.map CV.cp)):=by
 have ht:=hi.tmp t;rw [hg] at ht;obtain⟨vs,e1,hv⟩:=ht;obtain⟨val,h1,h2⟩:=mW hv hx;refine⟨val,w,?_,E,hw,hi,VR1.impLt (fun j x v hj hv=>hv.cp) h2⟩;rw [n5 ho,show a.eval (.tmp t)= .tuple vs from e1];have:vs[i]? =some val:=by rw [<-ZY];exact h1
 simp [Instr.extract,this,eH]
theorem uC{w:World}(hi:Inv C (St.get (u++σ)) a.tmps E)(hw:E.w=w){t i:Nat}(ho:o.op= .extract (.tmp t) i){ys:List (Bool×List CV)}(hg:St.get (u++σ) (2*t)= .tup ys)
 {x:Bool×List CV} (hx:(ys.map fun x=>(x.1,x.2.map CV.noAl))[i]? =some x):
 Good C (((2*t,.tup ((ys.map fun x=>(x.1,x.2.map CV.noAl)).set i (x.1,x.2.map CV.left)))::u)++σ) a w o (.v x.1 x.2):=by
 have ht:=hi.tmp t;rw [hg] at ht;obtain⟨vs,e1,hv⟩:=ht;obtain⟨y,hy,rfl⟩:∃y,ys[i]? =some y/\x=(y.1,y.2.map CV.noAl):=by
  rw [Zn,Z8] at hx;obtain⟨y,h1,h2⟩:=hx;exact⟨y,h1,h2.symm⟩
 obtain⟨val,h1,h2⟩:=mW hv hy;have hr:=pW (2*t) (0+((ys.take i).map fun z=>z.2.length).sum) y.2.length 0;have hb:∀s,aA (St.get (u++σ)) s->aA (St.get (((2*t,.tup ((ys.map fun x=>(x.1,x.2.map CV.noAl)).set i (y.1,(y.2.map CV.noAl).map CV.left)))::u)++σ)) s:=fun s=>dQ (by omega);refine⟨val,w,?_,E.rel (dA (2*t) (0+((ys.take i).map fun z=>z.2.length).sum) y.2.length 0),hw,?_,?_⟩
 ·rw [n5 ho,show a.eval (.tmp t)= .tuple vs from e1];have:vs[i]? =some val:=by rw [<-ZY];exact h1
  simp [Instr.extract,this,eH]
 ·refine hi.rel hr rfl hb (fun t' => .inr ⟨?_,rfl⟩) (fun s cs' hs=> ?_)
  ·show AWk _ _ _ (St.get ((2*t,_)::(u++σ)) _) _;rw [St.get_cons];split
   ·rename_i e;rw [<-e,hg];exact⟨ys,rfl,tG hx rfl (by simp)⟩
   ·rename_i e;refine AWk.map (fun c x=>CW.stale (fun _ hd=> ?_) (fun k c hd=> ?_) (fun h=>h.elim)) _
    ·rcases hd with ⟨hd,_⟩|hd
     ·injection hd with hd;exact e hd.symm
     ·cases hd
    ·rcases hd with ⟨hd,_⟩|hd
     ·injection hd with hd;simp [hd]
     ·cases hd
  ·obtain⟨cs,hc,rfl⟩:=eM (by omega) hs;refine .inr ⟨cs,hc,CWs.map (fun c x=>CW.stale (fun _ hd=> ?_) (fun k c hd=> ?_) (fun h=>h.elim)) _ _⟩
   ·rcases hd with ⟨hd,_⟩|hd
    ·injection hd with hd;omega
    ·cases hd
   ·rcases hd with ⟨hd,_⟩|hd
    ·injection hd with hd;simp [hd]
    ·cases hd
 ·refine VR1.impLt (fun j x v hj hv=> ?_) h2;have h3:VRc (E.rel (dA (2*t) (0+((ys.take i).map fun z=>z.2.length).sum) y.2.length 0)) (aA (St.get (u++σ))) (.h 0) (0+j) x.noAl v:=by
   have h4:VRc E (aA (St.get (u++σ))) (.k (2*t)) (0+((ys.take i).map fun z=>z.2.length).sum+j) x.noAl v:=by
    cases x with
    |sl f T xs=>cases f <;>first |exact hv|exact hv.one
    |eref k c p i T x off=>exact hv.one
    |apd k c p T xs=>exact hv.one
    |_=>exact hv
   refine h4.rel hr (fun _ p=> ?_) (fun k1 c1 hs=>absurd hs (kB _ _ _));simp only [dA];rw [Zw ⟨trivial,by omega,by omega⟩]
   congr 2
   omega
  exact VRc.step (E' :=E.rel (dA (2*t) (0+((ys.take i).map fun z=>z.2.length).sum) y.2.length 0)) (dk:=fun _ _=>False) (db:=fun _=>True) (mu:=False) ⟨fun b hb=>⟨fun _=>hb,fun o ho=>⟨rfl,ho⟩⟩,fun b k c p hb _=>⟨hb,rfl,rfl⟩,fun _ b o ho=>⟨rfl,ho⟩,fun s _ h=>(h trivial).elim,rfl⟩
   (fun s hs=>⟨hb s hs,rfl⟩) (by simp) (by simp) (by simp) h3
end
end Go.Ab
end
section
namespace Go.Ab
variable [Inhabited Lb]
def fM(g:Bool)(vs:List Value):Value:=cond g (.agg vs.toArray) (vs.headD undef)
theorem aS{E:Env}{bxs:Nat->Prop}{pl:Pl}:∀ {xs:List CV} {c:Nat} {vs:List Value},VRs E bxs pl c xs vs->xs.length=vs.length:=by
 intro xs
 induction xs with
 |nil=>intro c vs h;cases vs <;>simp_all [VRs]
 |cons x xs ih=>
  intro c vs h;cases vs with
  |nil=>exact h.elim
  |cons v vs=>simp [ih h.2]
theorem rM{E:Env}{bxs:Nat->Prop}{pl:Pl}:∀ {xs:List CV} {c n:Nat} {vs:List Value},VRs E bxs pl c xs vs->n<=xs.length->VRs E bxs pl (c+n) (xs.drop n) (vs.drop n):=by
 intro xs
 induction xs with
 |nil=>intro c n vs h hn;simp at hn;subst hn;simpa using h
 |cons x xs ih=>
  intro c n vs h hn;cases vs with
  |nil=>exact h.elim
  |cons v vs=>
   cases n with
   |zero=>exact h
   |succ n=>
    have:=ih (n:=n) h.2 (by simpa using hn);rw [show c+(n+1)=c+1+n from by omega];exact this
theorem rO{E:Env}{bxs:Nat->Prop}{pl:Pl}:∀ {xs:List CV} {c n:Nat} {vs:List Value},VRs E bxs pl c xs vs->VRs E bxs pl c (xs.take n) (vs.take n):=by
 intro xs
 induction xs with
 |nil=>intro c n vs h;cases vs <;>simp_all [VRs]
 |cons x xs ih=>
  intro c n vs h;cases vs with
  |nil=>exact h.elim
  |cons v vs=>
   cases n with
   |zero=>trivial
   |succ n=>exact⟨h.1,ih h.2⟩
theorem rL{E:Env}{bxs:Nat->Prop}{pl:Pl}:∀ {xs ys:List CV} {c:Nat} {vs ws:List Value},VRs E bxs pl c xs vs->VRs E bxs pl (c+xs.length) ys ws->VRs E bxs pl c (xs++ys) (vs++ws):=by
 intro xs
 induction xs with
 |nil=>intro ys c vs ws h h2;cases vs <;>simp_all [VRs]
 |cons x xs ih=>
  intro ys c vs ws h h2;cases vs with
  |nil=>exact h.elim
  |cons v vs=>exact⟨h.1,ih h.2 (by rw [show c+1+xs.length=c+(x::xs).length from by simp;omega];exact h2)⟩
theorem iM{E:Env}{bxs:Nat->Prop}{pl:Pl}{c:Nat}{g:Bool}{xs:List CV}{vs:List Value}(h:VRs E bxs pl c xs vs)(hg:g=false->xs.length=1):VR1 E bxs pl c g xs (fM g vs):=by
 cases g with
 |true=>exact⟨vs.toArray,rfl,by simpa using h⟩
 |false=>
  have hl:=hg rfl;have hv:=aS h
  match vs,(by omega:vs.length=1) with
  | [v],_=>exact h
theorem aZ{E:Env}{bxs:Nat->Prop}{pl:Pl}:∀ {xs:List CV} {c j:Nat} {vs:List Value} {x:CV} {v:Value},VRs E bxs pl c xs vs->xs[j]? =some x->vs[j]? =some v->VRc E bxs pl (c+j) x v:=by
 intro xs
 induction xs with
 |nil=>intro c j vs x v _ h;simp at h
 |cons y xs ih=>
  intro c j vs x v h h1 h2;cases vs with
  |nil=>exact h.elim
  |cons w vs=>
   cases j with
   |zero=>simp at h1 h2;subst h1 h2;exact h.1
   |succ j=>rw [show c+(j+1)=c+1+j from by omega];exact ih h.2 (by simpa using h1) (by simpa using h2)
theorem cC{E:Env}{bxs:Nat->Prop}{pl:Pl}:∀ {xs:List CV} {c:Nat} {vs:List Value},xs.length=vs.length->(∀j x v,xs[j]? =some x->vs[j]? =some v->VRc E bxs pl (c+j) x v)->VRs E bxs pl c xs vs:=by
 intro xs
 induction xs with
 |nil=>intro c vs hl h;cases vs <;>simp_all [VRs]
 |cons x xs ih=>
  intro c vs hl h;cases vs with
  |nil=>simp at hl
  |cons v vs=>exact⟨h 0 x v rfl rfl,ih (by simpa using hl) fun j y w h1 h2=>by rw [show c+1+j=c+(j+1) from by omega];exact h (j+1) y w (by simpa using h1) (by simpa using h2)⟩
theorem mK{P:Program}{w:World}{t:TypeId}{i:TI}(h:TIok P t i){b off:Nat}{vs:List Value}(hl:vs.length=i.sz)(hc:∀j v,vs[j]? =some v->w.cell? ⟨b,off+j,none⟩=some v):
 (Instr.loadAt t (.pointer (some ⟨b,off,none⟩))).run P w= .ok (fM i.agg vs) w:=by
 obtain⟨ti,d,h1,h2,h3,h4,h5,_⟩:=h.info;have hagg:(isAgg t).run P w= .ok i.agg w:=by
  unfold isAgg;rw [Sem.run_bind,run_underlying h3];simp only [Result.andThen_ok];rw [<-h4];cases d <;>rfl
 have hlc:=run_loadCells_list (P:=P) w ⟨b,off,none⟩ vs (fun j v hv=>by rw [dF];exact hc j v hv);simp only [Instr.loadAt,Instr.sureAddr,Sem.run_bind,Sem.run_pure,Result.andThen_ok,loadVar,hagg];cases hg:i.agg with
 |true=>
  simp only [ZB,Sem.run_bind,sizeOf,typeInfo,run_program,Result.andThen_ok,h1,Sem.run_pure,h2,<-hl,hlc]
  rfl
 |false=>
  have hs:=h5 hg
  match vs,(by omega:vs.length=1) with
  | [v],_=>
    have:=hc 0 v rfl;simp only [Yg,if_false,run_load];rw [show(⟨b,off,none⟩:Addr)=⟨b,off+0,none⟩ from rfl,this]
    rfl
theorem fG(f:Fl)(T:Ty)(x:T.den)(c:CV)(h:c∈T.enc f x):(∃k n,c= .int k n)\/(∃s,c= .str s)\/(∃U ys,c= .sl f U ys):=by
 cases T <;>simp [Ty.enc] at h <;>(try rcases h with h|h|h|h|h|h|h|h|h|h|h) <;>simp_all
theorem xJ{E:Env}{bxs:Nat->Prop}{f:Fl}(hf:f= .ro\/f= .bor){k k' :Pl}{c c' j:Nat}{T:Ty}{x:T.den}{y:CV}{v:Value}{d:D}(hy:y∈T.enc f x)(hd:y.toD=d)
 (h:RdP E.w (fun p=>okF E k c f ((0,j)::p)) (fun p=>qF E k c f ((0,j)::p)) v d):VRc E bxs k' c' y v:=by
 rcases fG f T x y hy with ⟨kd,n,rfl⟩|⟨s,rfl⟩|⟨U,ys,rfl⟩
 ·subst hd;cases h;exact rfl
 ·subst hd;cases h;exact⟨_,rfl,rfl⟩
 ·subst hd;rcases hf with rfl|rfl <;>exact h
end Go.Ab
end
section
namespace Go.Ab
variable [Inhabited Lb]
theorem fV{α:Type}:∀ {l:List α} {n:Nat} {vs r:List α},b9 l n vs=some r->r.length=l.length/\n+vs.length<=l.length:=by
 intro l
 induction l with
 |nil=>
  intro n vs r h;cases n with
  |zero=>
   simp only [b9] at h;split at h
   ·cases h;rename_i hl;simp at hl;subst hl;simp
   ·cases h
  |succ n=>simp [b9] at h
 |cons x l ih=>
  intro n vs r h;cases n with
  |zero=>
   simp only [b9] at h;split at h
   ·cases h;rename_i hl;simp at hl ⊢;omega
   ·cases h
  |succ n=>
   simp only [b9,Z8] at h;obtain⟨r',h1,rfl⟩:=h;obtain⟨a,b⟩:=ih h1;simp;omega
theorem fU{α:Type}:∀ {l:List α} {n:Nat} {vs r:List α},b9 l n vs=some r->∀j,r[j]? =if n<=j/\j<n+vs.length then vs[j - n]? else l[j]? :=by
 intro l
 induction l with
 |nil=>
  intro n vs r h j;cases n with
  |zero=>
   simp only [b9] at h;split at h
   ·cases h;rename_i hl;simp at hl;subst hl;simp
   ·cases h
  |succ n=>simp [b9] at h
 |cons x l ih=>
  intro n vs r h j;cases n with
  |zero=>
   simp only [b9] at h;split at h
   ·cases h;rw [List.getElem?_append];simp only [Z9,true_and,Zj,Nat.sub_zero];split
    ·rfl
    ·rw [Y7];congr 1;omega
   ·cases h
  |succ n=>
   simp only [b9,Z8] at h;obtain⟨r',h1,rfl⟩:=h;cases j with
   |zero=>simp
   |succ j=>
    have:=ih h1 j;simp only [List.getElem?_cons_succ,this];simp only [Nat.succ_le_succ_iff,show j+1<n+1+vs.length↔j<n+vs.length from by omega,show j+1 - (n+1)=j - n from by omega]
theorem q8{dk:Pl->Nat->Prop}{mu:Prop}{pl:Pl}:∀ {xs' xs:List CV} {c:Nat},xs'.length=xs.length->(∀j x' x,xs'[j]? =some x' ->xs[j]? =some x->CW dk mu pl (c+j) x' x)->CWs dk mu pl c xs' xs:=by
 intro xs'
 induction xs' with
 |nil=>intro xs c hl _;cases xs with
  |nil=>exact .nil
  |cons x xs=>simp at hl
 |cons x' xs' ih=>
  intro xs c hl h;cases xs with
  |nil=>simp at hl
  |cons x xs=>exact .cons (h 0 x' x rfl rfl) (ih (by simpa using hl) fun j y' y h1 h2=>by rw [show c+1+j=c+(j+1) from by omega];exact h (j+1) y' y (by simpa using h1) (by simpa using h2))
theorem fD{σ:St}{u u' :Ups}{s:Nat}{cs:List CV}(h:Mr (cZ s) σ u=some (cs,u')):St.get (u++σ) (2*s+1)= .v true cs/\u' =u:=by
 obtain⟨b,u1,h1,h2⟩:=aC h;obtain⟨rfl,rfl⟩:=bN h1;split at h2
 ·obtain⟨rfl,rfl⟩:=aE h2;exact⟨‹_›,rfl⟩
 ·exact(aD h2).elim
theorem VRc.bxs{E:Env}{bxs bxs' :Nat->Prop}(h:∀s,bxs s->bxs' s){k:Pl}{c:Nat}{x:CV}{v:Value}(hv:VRc E bxs k c x v):VRc E bxs' k c x v:=
 VRc.step (E' :=E) (dk:=fun _ _=>False) (db:=fun _=>True) (mu:=False) ⟨fun b hb=>⟨fun _=>hb,fun o ho=>⟨rfl,ho⟩⟩,fun b k c p hb _=>⟨hb,rfl,rfl⟩,fun _ b o ho=>⟨rfl,ho⟩,fun s _ h=>(h trivial).elim,rfl⟩
  (fun s hs=>⟨h s hs,rfl⟩) (by simp) (by simp) (by simp) hv
section
variable {C:Ctx} {σ:St} {a:Act} {E:Env} {u u' u'' :Ups} {tt:TT} {o:Oper} {md:Md} {v:AV} {ob:List Prop} {ty:TypeId}
theorem rP(k:Nat):∀(cs:List CV) (c j:Nat),(cF k c cs)[j]? =(cs[j]?).map fun x=>x.alias k (c+j) []:=by
 intro cs
 induction cs with
 |nil=>intro c j;simp [cF]
 |cons x cs ih=>
  intro c j;cases j with
  |zero=>simp [cF]
  |succ j=>simp [cF,ih];congr 1;funext y;congr 1;omega
theorem rQ(k c:Nat)(p:List (Nat×Nat))(i:Nat):∀(cs:List CV) (d j:Nat),(dO k c p i d cs)[j]? =(cs[j]?).map fun x=>x.alias k c (p++ [(i,d+j)]):=by
 intro cs
 induction cs with
 |nil=>intro c j;simp [dO]
 |cons x cs ih=>
  intro d j;cases j with
  |zero=>simp [dO]
  |succ j=>simp [dO,ih];congr 1;funext y;congr 4;omega
theorem vR{w:World}(htt:aO C.P tt)(hi:Inv C (St.get (u++σ)) a.tmps E)(hw:E.w=w){t:TypeId}{x:Operand}(ho:o.op= .load t x){i:TI}(hti:tt.get t=some i)
 {s off:Nat} (hx:∀pl j,VRc E (aA (St.get (u++σ))) pl j (.ptr s off) (a.eval x)) (h:Mr (lS md i s off) σ u=some ((v,ob),u')):
 Good C (u' ++σ) a w o v:=by
 unfold lS at h;obtain⟨cs,u1,h1,h2⟩:=aC h;obtain⟨hg,rfl⟩:=fD h1;obtain⟨hlen,h2⟩:=aQ h2;have hlen:off+i.sz<=cs.length:=Xg hlen;obtain⟨hown,vals,ety,hh,hv⟩:=hi.box s cs hg;have hvl:=aS hv;have hA:a.eval x= .pointer (some ⟨E.bx s,off,none⟩):=(hx (.h 0) 0).1;have hsub:VRs E (aA (St.get (u1++σ))) (.k (2*s+1)) (0+off) ((cs.drop off).take i.sz) ((vals.toList.drop off).take i.sz):=rO (rM hv (by omega));have hsl:((vals.toList.drop off).take i.sz).length=i.sz:=by simp at hvl ⊢;omega
 have hcl:((cs.drop off).take i.sz).length=i.sz:=by simp;omega
 have hg1:i.agg=false->((cs.drop off).take i.sz).length=1:=by
  obtain⟨_,_,_,_,_,_,h5,_⟩:=(htt t i hti).info;intro h;rw [hcl];exact h5 h
 have run:(execOp a.eval o).run C.P w= .ok (.value (fM i.agg ((vals.toList.drop off).take i.sz))) w:=by
  rw [n8 ho,hA,mK (htt t i hti) hsl (fun j v hj=> ?_)]
  ·rfl
  ·have hj' :j<i.sz:=by
    rcases ZG j i.sz with h|h
    ·exact h
    ·rw [ZP (by omega)] at hj;cases hj
   have e:vals[off+j]? =some v:=by
    rw [Y4 hj',Y7] at hj;rw [<-ZY];exact hj
   rw [<-hw];simp [World.cell?,hh,e]
 cases md with
 |cp=>
  obtain⟨rfl,_,rfl⟩:=bV h2;exact⟨_,w,run,E,hw,hi,VR1.imp (fun j x v _ hv=>hv.cp) (iM hsub hg1)⟩
 |ref=>
  obtain⟨rfl,_,rfl⟩:=bV h2;refine⟨_,w,run,E,hw,hi,iM (c:=0) (cC ?_ fun j y z h1 h2=> ?_) ?_⟩
  ·rw [<-aS hsub];have:(cF (2*s+1) 0 cs).length=cs.length:=by
    have key:∀(l:List CV) c,(cF (2*s+1) c l).length=l.length:=by
     intro l;induction l with
     |nil=>intro c;rfl
     |cons x l ih=>intro c;simp [cF,ih]
    exact key _ _
   simp [this]
  ·have hj:j<i.sz:=by
    rcases ZG j i.sz with h|h
    ·exact h
    ·rw [ZP (by omega)] at h2;cases h2
   rw [Y4 hj,Y7,rP,Z8] at h1;obtain⟨y0,h3,rfl⟩:=h1;have h4:((cs.drop off).take i.sz)[j]? =some y0:=by rw [Y4 hj,Y7];exact h3
   have:=aZ hsub h4 h2;have:=VRc.alias (k' := .h 0) (c' :=0+j) this
   rwa [show 0+off+j=0+(off+j) from by omega] at this
  ·intro h;have:=hg1 h;have key:∀(l:List CV) c,(cF (2*s+1) c l).length=l.length:=by
    intro l;induction l with
    |nil=>intro c;rfl
    |cons x l ih=>intro c;simp [cF,ih]
   simp [key] at this ⊢;omega
 |take=>
  obtain⟨new,u2,h3,h4⟩:=aC h2;obtain⟨hset,rfl⟩:=cX h3;obtain⟨_,u3,h5,h6⟩:=aC h4;obtain rfl:=bG h5;obtain⟨rfl,_,rfl⟩:=bV h6;have hr:=pW (2*s+1) off i.sz 0;have hb:∀s',aA (St.get (u2++σ)) s' ->aA (St.get (((2*s+1,.v true new)::u2)++σ)) s' :=by
   intro s' hs';by_cases e:s' =s
   ·subst e;exact⟨new,by show St.get ((2*s' +1,_)::(u2++σ)) _=_;rw [St.get_cons,Zw rfl]⟩
   ·exact dQ (by omega) hs'
  refine⟨_,w,run,E.rel (dA (2*s+1) off i.sz 0),hw,hi.rel hr rfl hb (fun t' => .inr ⟨?_,rfl⟩) (fun s' cs' hs' => ?_),?_⟩
  ·show AWk _ _ _ (St.get ((2*s+1,_)::(u2++σ)) _) _;rw [St.get_cons,Zf (by omega)];refine AWk.map (fun c x=>CW.stale (fun _ hd=> ?_) (fun k c hd=> ?_) (fun h=>h.elim)) _
   ·rcases hd with ⟨hd,_⟩|hd
    ·injection hd with hd;omega
    ·cases hd
   ·rcases hd with ⟨hd,_⟩|hd
    ·injection hd with hd;simp [hd]
    ·cases hd
  ·by_cases e:s' =s
   ·subst e;have e1:St.get ((2*s' +1,.v true new)::(u2++σ)) (2*s' +1)= .v true cs' :=hs';rw [St.get_cons,Zw rfl] at e1;injection e1 with _ e1;subst e1;refine .inr ⟨cs,hg,q8 (by rw [(fV hset).1,Zr]) fun j x' x h7 h8=> ?_⟩;rw [fU hset] at h7;simp only [Zr,ZT,Yx] at h7;split at h7
    ·rename_i hr';rw [Zn,Y4 (by omega),Y7,Zn,show off+(j - off)=j from by omega,h8] at h7;simp at h7;subst h7;exact pH
    ·rename_i hr';rw [Zn,h8] at h7;simp at h7;subst h7;refine l9 fun _ hd=> ?_;rcases hd with ⟨_,hd1,hd2⟩|hd
     ·omega
     ·cases hd
   ·obtain⟨cs,hc,rfl⟩:=eM (by omega) hs';refine .inr ⟨cs,hc,CWs.map (fun c x=>CW.stale (fun _ hd=> ?_) (fun k c hd=> ?_) (fun h=>h.elim)) _ _⟩
    ·rcases hd with ⟨hd,_⟩|hd
     ·injection hd with hd;omega
     ·cases hd
    ·rcases hd with ⟨hd,_⟩|hd
     ·injection hd with hd;simp [hd]
     ·cases hd
  ·have h9:VRs (E.rel (dA (2*s+1) off i.sz 0)) (aA (St.get (((2*s+1,.v true new)::u2)++σ))) (.h 0) 0 (((cs.drop off).take i.sz).map CV.noAl) ((vals.toList.drop off).take i.sz):=by
    refine VRs.impLt (fun j x v hj hv=> ?_) hsub;rw [hcl] at hj;have h4:VRc E (aA (St.get (u2++σ))) (.k (2*s+1)) (0+off+j) x.noAl v:=by
     cases x with
     |sl f T xs=>cases f <;>first |exact hv|exact hv.one
     |eref k c p i T x off=>exact hv.one
     |apd k c p T xs=>exact hv.one
     |_=>exact hv
    refine VRc.bxs hb (h4.rel hr (fun _ p=> ?_) (fun k1 c1 hs=>absurd hs (kB _ _ _)));simp only [dA];rw [Zw ⟨trivial,by omega,by omega⟩]
    congr 2
    omega
   have h10:=iM (g:=i.agg) h9 (fun h=>by rw [Zr];exact hg1 h);show VR1 _ _ _ 0 i.agg _ _;rw [<-List.map_drop,<-List.map_take];exact h10
end
end Go.Ab
end
section
namespace Go.Ab
variable [Inhabited Lb]
theorem lD{f:Fl}{T:Ty}{x:T.den}{j:Nat}{y:CV}(h:(T.enc f x)[j]? =some y):∃hj:j<(T.toD x).length,(T.toD x)[j]=y.toD/\y∈T.enc f x:=by
 have hl:j<(T.enc f x).length:=by
  rcases ZG j (T.enc f x).length with h' |h'
  ·exact h'
  ·rw [ZP h'] at h;cases h
 have hl2:j<(T.toD x).length:=by rw [<-Ty.enc_toD f T x,Zr];exact hl
 refine⟨hl2,?_,?_⟩
 ·have e:(T.toD x)[j]? =some y.toD:=by rw [<-Ty.enc_toD f T x,Zn,h];rfl
  rw [Zx hl2] at e;injection e
 ·rw [Zx hl] at h;injection h with h;subst h;exact Z4 hl
section
variable {C:Ctx} {σ:St} {a:Act} {E:Env} {u u' u'' :Ups} {tt:TT} {o:Oper} {md:Md} {v:AV} {ob:List Prop} {ty:TypeId}
theorem lR{w:World}(htt:aO C.P tt)(hi:Inv C (St.get (u++σ)) a.tmps E)(hw:E.w=w){t:TypeId}{x:Operand}(ho:o.op= .load t x){i:TI}(hti:tt.get t=some i)
 {b off:Nat} (hx:a.eval x= .pointer (some ⟨b,off,none⟩)) {cs:List CV} (hl:cs.length=i.sz) {g:Nat->Value}
 (hc:∀j y,cs[j]? =some y->w.cell? ⟨b,off+j,none⟩=some (g j)/\VRc E (aA (St.get (u++σ))) (.h 0) (0+j) y (g j)):Good C (u++σ) a w o (.v i.agg cs):=by
 have hv:VRs E (aA (St.get (u++σ))) (.h 0) 0 cs ((List.range i.sz).map g):=by
  refine cC (by simp [hl]) fun j y z h1 h2=> ?_;rw [Zn] at h2;have hj:j<i.sz:=by
   rcases ZG j i.sz with h|h
   ·exact h
   ·rw [ZP (by omega)] at h1;cases h1
  rw [YB hj] at h2;simp at h2;subst h2;exact(hc j y h1).2
 refine⟨fM i.agg ((List.range i.sz).map g),w,?_,E,hw,hi,iM hv fun h=> ?_⟩
 ·rw [n8 ho,hx,mK (htt t i hti) (vs:=(List.range i.sz).map g) (by simp) (fun j z hj=> ?_)]
  ·rfl
  ·rw [Zn] at hj;have hj' :j<i.sz:=by
    rcases ZG j i.sz with h|h
    ·exact h
    ·rw [ZP (by simp;omega)] at hj;cases hj
   rw [YB hj'] at hj;simp at hj;subst hj;exact(hc j (cs[j]'(by omega)) (Zx (by omega))).1
 ·obtain⟨_,_,_,_,_,_,h5,_⟩:=(htt t i hti).info;rw [hl];exact h5 h
theorem mO{cs:List CV}{off m j:Nat}{y:CV}(h:((cs.drop off).take m)[j]? =some y):cs[off+j]? =some y/\j<m:=by
 have hj:j<m:=by
  rcases ZG j m with h' |h'
  ·exact h'
  ·rw [ZP (by simp;omega)] at h;cases h
 rw [Y4 hj,Y7] at h;exact⟨h,hj⟩
theorem vU{w:World}(htt:aO C.P tt)(hi:Inv C (St.get (u++σ)) a.tmps E)(hw:E.w=w){t:TypeId}{x:Operand}(ho:o.op= .load t x){i:TI}(hti:tt.get t=some i)
 {f:Fl} {T:Ty} {y:T.den} {off:Nat} (hx:VRc E (aA (St.get (u++σ))) (.h 0) 0 (.eptr f T y off) (a.eval x)) (hl:off+i.sz<=T.sz):
 Good C (u++σ) a w o (.v i.agg (((T.enc f y).drop off).take i.sz)):=by
 obtain⟨hf,b,o',e,g,hg⟩:=hx;refine lR htt hi hw ho hti e (by simp [Ty.enc_length];omega) (g:=fun j=>g (off+j)) fun j z hz=> ?_;obtain⟨h1,h2⟩:=mO hz;obtain⟨hj,h3,h4⟩:=lD h1;obtain⟨k1,k2,k3⟩:=hg (off+j) hj;rw [<-hw,Yt];exact⟨k1,xJ hf h4 h3.symm k3⟩
theorem pR{E:Env}{bxs:Nat->Prop}{k c:Nat}{p:List (Nat×Nat)}{n j:Nat}{pl pl' :Pl}{c' d' :Nat}{T:Ty}{x:T.den}{z:CV}{v:Value}(hz:z∈T.enc .own x)
 (h:RdP E.w (fun q=>okF E pl c' (.al k c p) ((n,j)::q)) (fun q=>qF E pl c' (.al k c p) ((n,j)::q)) v z.toD):VRc E bxs pl' d' (z.alias k c (p++ [(n,j)])) v:=by
 rcases fG _ T x z hz with ⟨kd,m,rfl⟩|⟨s,rfl⟩|⟨U,ys,rfl⟩
 ·cases h;exact rfl
 ·cases h;exact⟨_,rfl,rfl⟩
 ·refine RdP.mono h (fun q b o ho=>⟨rfl,ho.1,?_⟩) (fun q v sz ht=> ?_)
  ·rw [Zc];exact ho.2
  ·show Tip _ _ _ _;rw [Zc];exact ht
theorem tM{T:Ty}{x:T.den}:T.enc .bor x=(T.enc .own x).map CV.cp:=by cases T <;>rfl
theorem vW{w:World}(htt:aO C.P tt)(hi:Inv C (St.get (u++σ)) a.tmps E)(hw:E.w=w){t:TypeId}{x:Operand}(ho:o.op= .load t x){i:TI}(hti:tt.get t=some i)
 {k c n:Nat} {p:List (Nat×Nat)} {T:Ty} {y:T.den} {off:Nat} (hx:VRc E (aA (St.get (u++σ))) (.h 0) 0 (.eref k c p n T y off) (a.eval x)) (hl:off+i.sz<=T.sz):
 Good C (u++σ) a w o (.v i.agg (((T.enc .bor y).drop off).take i.sz))/\Good C (u++σ) a w o (.v i.agg (((dO k c p n 0 (T.enc .own y)).drop off).take i.sz)):=by
 obtain⟨b,e,_,_,g,hg⟩:=hx;refine⟨lR htt hi hw ho hti e (by simp [Ty.enc_length];omega) (g:=fun j=>g (off+j)) fun j z hz=> ?_,lR htt hi hw ho hti e ?_ (g:=fun j=>g (off+j)) fun j z hz=> ?_⟩
 ·obtain⟨h1,h2⟩:=mO hz;rw [tM,Zn,Z8] at h1;obtain⟨z0,h1,rfl⟩:=h1;obtain⟨hj,h3,h4⟩:=lD h1;obtain⟨k1,k3⟩:=hg (off+j) hj;rw [<-hw,Yt];refine⟨k1,?_⟩;rw [h3] at k3;have:=pR (bxs:=aA (St.get (u++σ))) (pl' := .h 0) (d' :=0+j) h4 k3;rcases fG _ T y z0 h4 with ⟨kd,m,rfl⟩|⟨s,rfl⟩|⟨U,ys,rfl⟩
  ·exact this
  ·exact this
  ·exact RdP.mono this (fun q b o ho=>⟨rfl,ho.1⟩) (fun _ _ _ _=>trivial)
 ·have key:∀(l:List CV) d,(dO k c p n d l).length=l.length:=by
   intro l;induction l with
   |nil=>intro c;rfl
   |cons x l ih=>intro c;simp [dO,ih]
  simp [key,Ty.enc_length];omega
 ·obtain⟨h1,h2⟩:=mO hz;rw [rQ,Z8] at h1;obtain⟨z0,h1,rfl⟩:=h1;obtain⟨hj,h3,h4⟩:=lD h1;obtain⟨k1,k3⟩:=hg (off+j) hj;rw [<-hw,Yt];refine⟨k1,?_⟩;rw [h3] at k3;rw [show 0+(off+j)=off+j from by omega];exact pR h4 k3
end
end Go.Ab
end
section
namespace Go.Ab
variable [Inhabited Lb]
theorem xY{w:World}{b o:Nat}{v:Value}{cs:Array Value}{ty:TypeId}{fr:Nat×Nat}(h:w.heap[b]? =some (.cells cs ty fr)):
 (w.setCell ⟨b,o,none⟩ v).heap[b]? =some (.cells (cs.setIfInBounds o v) ty fr):=by
 simp [World.setCell,Yo,h]
theorem xZ{w:World}{b o k:Nat}{v:Value}(h:k≠b):(w.setCell ⟨b,o,none⟩ v).heap[k]? =w.heap[k]? :=by
 simp [World.setCell,Yo,Ne.symm h]
theorem cW(b k:Nat)(h:k≠b):∀(vs:List Value) (o:Nat) (w:World),(w.setCells b o vs).heap[k]? =w.heap[k]?
 | [],_,_=>rfl
 |v::r,o,w=>by rw [World.setCells,cW b k h r,xZ h]
theorem dB(b:Nat):∀(vs:List Value) (o:Nat) (w:World),(w.setCells b o vs).heap.size=w.heap.size
 | [],_,_=>rfl
 |v::r,o,w=>by rw [World.setCells,dB b r];simp [World.setCell]
theorem dN(b:Nat):∀(vs:List Value) (o:Nat) (w:World),(w.setCells b o vs).os=w.os/\(w.setCells b o vs).tape=w.tape/\(w.setCells b o vs).output=w.output
 | [],_,_=>⟨rfl,rfl,rfl⟩
 |v::r,o,w=>by rw [World.setCells];exact dN b r _ _
theorem dM(b:Nat):∀(vs:List Value) (o:Nat) (w:World) {cs:Array Value} {ty:TypeId} {fr:Nat×Nat},w.heap[b]? =some (.cells cs ty fr)->
 ∃cs',(w.setCells b o vs).heap[b]? =some (.cells cs' ty fr)/\cs'.size=cs.size/\∀j,cs'[j]? =if o<=j/\j<o+vs.length/\j<cs.size then vs[j - o]? else cs[j]?
 | [],o,w,cs,ty,fr,h=>⟨cs,h,rfl,fun j=>by rw [Zf];simp;omega⟩
 |v::r,o,w,cs,ty,fr,h=>by
  obtain⟨cs',h1,h2,h3⟩:=dM b r (o+1) (w.setCell ⟨b,o,none⟩ v) (xY h);refine⟨cs',h1,by rw [h2];simp,fun j=> ?_⟩;rw [h3 j];simp only [Xn,jC];by_cases hj:o+1<=j/\j<o+1+r.length/\j<cs.size
  ·rw [Zw hj,Zw (by omega)];rw [show j - o=(j - (o+1))+1 from by omega]
   rfl
  ·rw [Zf hj];by_cases e:j=o/\j<cs.size
   ·rw [Zw (by omega)];obtain⟨rfl,hlt⟩:=e;simp [hlt]
   ·rw [Zf (by omega),YU];split
    ·rename_i e2;subst e2;split
     ·rename_i h5;exact absurd ⟨rfl,h5⟩ e
     ·rename_i h5;rw [Yr (by omega)]
    ·rfl
end Go.Ab
end
section
namespace Go.Ab
variable [Inhabited Lb]
theorem Step.trans{E E1 E2:Env}{dk dk' :Pl->Nat->Prop}{db db' :Nat->Prop}{mu mu' :Prop}(h:Step E E1 dk db mu)(h' :Step E1 E2 dk' db' mu'):
 Step E E2 (fun k c=>dk k c\/dk' k c) (fun s=>db s\/db' s) (mu\/mu') where
 ro:=fun b hb=>by
  obtain⟨a,c⟩:=h.ro b hb;by_cases hz:0<E.hw b
  ·obtain⟨a',c'⟩:=h'.ro b (a hz);have hw1:0<E1.hw b:=by have:=(c 0 hz).2;omega
   exact⟨fun _=>a' hw1,fun o ho=>⟨(c' o (c o ho).2).1.trans (c o ho).1,(c' o (c o ho).2).2⟩⟩
  ·exact⟨fun h=>absurd h hz,fun o ho=>absurd (Nat.zero_lt_of_lt ho) hz⟩
 own:=fun b k c p hb hk=>by
  obtain⟨a1,a2,a3⟩:=h.own b k c p hb fun hd=>hk (.inl hd);obtain⟨b1,b2,b3⟩:=h'.own b k c p a1 fun hd=>hk (.inr hd);exact⟨b1,b2.trans a2,b3.trans a3⟩
 bor:=fun hm b o ho=>by
  obtain⟨a1,a2⟩:=h.bor (fun hd=>hm (.inl hd)) b o ho;obtain⟨b1,b2⟩:=h'.bor (fun hd=>hm (.inr hd)) b o a2;exact⟨b1.trans a1,b2⟩
 box:=fun s hs hd=>by
  obtain⟨a1,a2,a3⟩:=h.box s hs fun h=>hd (.inl h);obtain⟨b1,b2,b3⟩:=h'.box s (by rw [a1];exact a2) fun h=>hd (.inr h);exact⟨b1.trans a1,by rw [a1] at b2;exact b2,by rw [a1] at b3;exact b3.trans a3⟩
 hdr:=h'.hdr.trans h.hdr
theorem Step.imp{E E1:Env}{dk dk' :Pl->Nat->Prop}{db db' :Nat->Prop}{mu mu' :Prop}(h:Step E E1 dk db mu)(h1:∀k c,dk k c->dk' k c)(h2:∀s,db s->db' s)(h3:mu->mu'):
 Step E E1 dk' db' mu' :=
 ⟨h.ro,fun b k c p hb hk=>h.own b k c p hb fun hd=>hk (h1 _ _ hd),fun hm=>h.bor fun h=>hm (h3 h),fun s hs hd=>h.box s hs fun h=>hd (h2 _ h),h.hdr⟩
def bJ(q off m:Nat):Own->Option Own
 | .arr (.k k) c p=>if k=q/\off<=c/\c<off+m then none else some (.arr (.k k) c p)
 | .arr (.h j) c p=>if j=0 then(if c<m then some (.arr (.k q) (off+c) p) else none) else some (.arr (.h j) c p)
 | .box s=>some (.box s)
def dkS(q off m:Nat):Pl->Nat->Prop:=fun pl c=>(pl= .k q/\off<=c/\c<off+m)\/pl= .h 0
theorem qQ(q off m:Nat):RhoOk (bJ q off m) (dkS q off m) where
 box:=fun _=>rfl
 id:=fun k c p h=>by
  unfold dkS at h;cases k with
  |k n=>
   have:¬(n=q/\off<=c/\c<off+m):=fun e=>h (.inl ⟨by rw [e.1],e.2⟩);simp only [bJ,Zf this]
  |h n=>have:n≠0:=fun e=>h (.inr (by rw [e]));simp [bJ,this]
 inj:=fun l1 l2 l h1 h2=>by
  unfold bJ at h1 h2;split at h1 <;>split at h2 <;>(repeat' split at h1) <;>(repeat' split at h2) <;>simp_all <;>(try (subst h1;simp_all)) <;>(try omega)
  all_goals (obtain⟨e1,e2,e3⟩:=h2;subst e1;rename_i hh _ _ _;exact absurd (hh rfl (by omega)) (by omega))
 arr:=fun k c p s=>by
  cases k <;>simp only [bJ] <;>(repeat' split) <;>simp
section
variable {C:Ctx} {σ:St} {a:Act} {E:Env} {u u' u'' :Ups} {tt:TT} {o:Oper} {md:Md} {v:AV} {ob:List Prop} {ty:TypeId}
theorem sL{E:Env}{s:Nat}{w' :World}(hs:E.ow (E.bx s)=some (.box s))(h0:E.hw (E.bx s)=0)(hinj:∀b b' l,E.ow b=some l->E.ow b' =some l->b=b')
 (hw:∀k,k≠E.bx s->w'.heap[k]? =E.w.heap[k]?):Step E { E with w:=w' } (fun _ _=>False) (fun s' =>s' =s) False where
 ro:=fun b hb=>⟨fun _=>hb,fun o ho=>⟨aT (hw b fun e=>by rw [e,h0] at ho;omega) o,ho⟩⟩
 own:=fun b k c p hb _=>⟨hb,rfl,hw b fun e=>by rw [e,hs] at hb;cases hb⟩
 bor:=fun _ b o ho=>⟨aT (hw b fun e=>by rw [e,h0] at ho;omega) o,ho⟩
 box:=fun s' hs' hd=>⟨rfl,hs',hw _ fun e=>by
  rw [e,hs] at hs';injection hs' with hs';injection hs' with hs';exact hd hs'.symm⟩
 hdr:=rfl
theorem yG{w:World}(hi:Inv C (St.get (u++σ)) a.tmps E)(hw:E.w=w){s off:Nat}{cs vs cs' :List CV}{g:Bool}{val:Value}(hg:St.get (u++σ) (2*s+1)= .v true cs)
 (hv:VR1 E (aA (St.get (u++σ))) (.h 0) 0 g vs val) (hns:∀y∈vs,∀k c,¬y.speaks k c) (hset:b9 (cs.map CV.noAl) off vs=some cs'):
 ∃w',(storeCells ⟨E.bx s,off,none⟩ val.cells.toList 0).run C.P w= .ok () w' /\val.cells.size=vs.length/\
  Hand C (((2*s+1,.v true cs')::u)++σ) a.tmps w' 0 .none undef:=by
 obtain⟨hown,vals,ety,hh,hbv⟩:=hi.box s cs hg;have hvl:=aS hbv;obtain⟨ws,hws,hvs,hone⟩:∃ws:List Value,val.cells.toList=ws/\VRs E (aA (St.get (u++σ))) (.h 0) 0 vs ws/\∀x∈ws,x.oneCell' =true:=by
  have one:∀ {xs:List CV} {c:Nat} {zs:List Value},VRs E (aA (St.get (u++σ))) (.h 0) c xs zs->∀x∈zs,x.oneCell' =true:=by
   intro xs
   induction xs with
   |nil=>intro c zs h x hx;cases zs with
    |nil=>cases hx
    |cons z zs=>exact h.elim
   |cons y xs ih=>
    intro c zs h x hx;cases zs with
    |nil=>cases hx
    |cons z zs=>
     cases hx with
     |head=>exact h.1.one
     |tail _ hx=>exact ih h.2 x hx
  cases g with
  |true=>obtain⟨ws,rfl,h⟩:=hv;exact⟨ws.toList,rfl,h,one h⟩
  |false=>
   have h1:∀x∈ [val],x.oneCell' =true:=one hv;have:val.cells= #[val]:=by
    have:=h1 val (by simp);cases val <;>first |rfl|simp [Value.oneCell'] at this
   exact⟨[val],by rw [this],hv,h1⟩
 have hlen:=aS hvs;have hoff:=(fV hset).2;rw [Zr] at hoff;have hszv:vals.size=cs.length:=by rw [hvl];simp
 have hcell:∀j,j<ws.length->(w.cell? ⟨E.bx s,off+0+j,none⟩).isSome=true:=by
  intro j hj;have:off+j<vals.size:=by omega
  rw [<-hw];simp [World.cell?,hh,this]
 have hfro:∀j,j<ws.length->w.frozen? ⟨E.bx s,off+0+j,none⟩=false:=by
  intro j _;rw [<-hw];simp [World.frozen?,hh]
 have run:=run_storeCells_cells (P:=C.P) (E.bx s) off ws 0 w hcell hfro hone;refine⟨w.setCells (E.bx s) (off+0) ws,by rw [hws];exact run,by rw [<-Array.length_toList,hws,hlen],?_⟩;rw [Nat.add_zero];obtain⟨vals',h1,h2,h3⟩:=dM (E.bx s) ws off w (by rw [<-hw];exact hh);have hr:=qQ (2*s+1) off vs.length;have hbs:(E.rel (bJ (2*s+1) off vs.length)).ow (E.bx s)=some (.box s):=by simp [Env.rel,hown,bJ]
 have hinj:∀b b' l,(E.rel (bJ (2*s+1) off vs.length)).ow b=some l->(E.rel (bJ (2*s+1) off vs.length)).ow b' =some l->b=b' :=by
  intro b b' l g1 g2;simp only [Env.rel,Zm] at g1 g2;obtain⟨l1,a1,c1⟩:=g1;obtain⟨l2,a2,c2⟩:=g2;have:=hr.inj _ _ _ c1 c2;subst this;exact hi.inj _ _ _ a1 a2
 have st2:=sL (E:=E.rel (bJ (2*s+1) off vs.length)) (s:=s) (w' :=w.setCells (E.bx s) off ws) hbs (hi.boxhw _ _ hown) hinj (fun k hk=>by rw [<-hw];exact cW _ _ hk _ _ _);have st:=((fS hr).trans st2).imp (dk' :=dkS (2*s+1) off vs.length) (db' :=fun s' =>s' =s) (mu' :=False) (fun k c h=>h.elim id fun h=>h.elim) (fun s' h=>h.elim (fun h=>h.elim) id) (fun h=>h.elim id id);have hb:∀s',aA (St.get (u++σ)) s' ->aA (St.get (((2*s+1,.v true cs')::u)++σ)) s' :=by
  intro s' hs';by_cases e:s' =s
  ·subst e;exact⟨cs',by show St.get ((2*s' +1,_)::(u++σ)) _=_;rw [St.get_cons,Zw rfl]⟩
  ·exact dQ (by omega) hs'
 have hold:∀b,b<C.B->C.ow0 b=none->b≠E.bx s:=by
  intro b hb h0 e;have:=(hi.old b hb h0).2.2;rw [e,hown] at this;cases this
 refine⟨_,rfl,hi.step st (by simp only [<-hw];exact(dN _ _ _ _).1) (by simp only [<-hw];exact(dN _ _ _ _).2.1) (by simp only [<-hw];exact(dN _ _ _ _).2.2) (by simp only [<-hw];rw [dB];exact Zi _)
  (fun b hlt h0=>⟨by simp only [<-hw];exact cW _ _ (hold b hlt h0) _ _ _,rfl,by simp [Env.rel,(hi.old b hlt h0).2.2]⟩)
  (fun b hlt=>by
    have:=hi.new b (by simp only [<-hw,dB] at hlt;exact hlt);exact⟨by simp [Env.rel,this.1],this.2⟩) hinj (fun b s' h=> ?_) rfl (fun s' hs' =>⟨hb s' hs',rfl⟩) (fun t' => .inr ⟨?_,rfl⟩) (fun s' cs2 hs' => ?_),trivial⟩
 ·simp only [Env.rel,Zm] at h;obtain⟨l,a1,c1⟩:=h;cases l with
  |box s2=>
   simp only [bJ] at c1;exact hi.boxhw b _ a1
  |arr k c p=>exact absurd c1 (hr.arr k c p s')
 ·show AWk _ _ _ (St.get ((2*s+1,_)::(u++σ)) _) _;rw [St.get_cons,Zf (by omega)];refine AWk.map (fun c x=>CW.stale (fun _ hd=> ?_) (fun k c hd=> ?_) (fun h=>h.elim)) _
  ·rcases hd with ⟨hd,_⟩|hd
   ·injection hd with hd;omega
   ·cases hd
  ·rcases hd with ⟨hd,_⟩|hd
   ·injection hd with hd;simp [hd]
   ·cases hd
 ·by_cases e:s' =s
  ·subst e;have e1:St.get ((2*s' +1,.v true cs')::(u++σ)) (2*s' +1)= .v true cs2:=hs';rw [St.get_cons,Zw rfl] at e1;injection e1 with _ e1;subst e1;refine .inl ⟨hbs,vals',ety,h1,cC ?_ fun j y z h4 h5=> ?_⟩
   ·have:=(fV hset).1;rw [Zr] at this;have h8:vals'.toList.length=vals'.size:=by simp
    omega
   ·rw [fU hset] at h4;rw [ZY,h3 j] at h5;by_cases hj:off<=j/\j<off+vs.length
    ·rw [Zw hj] at h4;rw [Zw (by omega)] at h5;have h6:=aZ hvs h4 h5;have h7:VRc (E.rel (bJ (2*s' +1) off vs.length)) (aA (St.get (u++σ))) (.k (2*s' +1)) (0+j) y z:=by
      refine h6.rel hr (fun _ p=> ?_) (fun k1 c1 hs=>absurd hs (hns y (Zs h4) _ _));simp only [bJ,ZB];rw [Zw (by omega)]
      congr 2
      omega
     exact VRc.step st2 (fun s hs=>⟨hb s hs,rfl⟩) (by simp) (by simp) (by simp) h7
    ·rw [Zf hj,Zn,Z8] at h4;rw [Zf (by omega)] at h5;obtain⟨y0,h4,rfl⟩:=h4;have h6:=aZ hbv h4 (by rw [ZY];exact h5);have h7:VRc E (aA (St.get (u++σ))) (.k (2*s' +1)) (0+j) y0.noAl z:=by
      cases y0 with
      |sl f T xs=>cases f <;>first |exact h6|exact h6.one
      |eref k c p i T x off=>exact h6.one
      |apd k c p T xs=>exact h6.one
      |_=>exact h6
     refine VRc.step st (fun s hs=>⟨hb s hs,rfl⟩) (fun _ hd=> ?_) (fun k1 c1 hs=>absurd hs (kB _ _ _)) (by simp) h7;rcases hd with ⟨_,hd1,hd2⟩|hd
     ·omega
     ·cases hd
  ·obtain⟨cs0,hc,rfl⟩:=eM (by omega) hs';refine .inr ⟨e,cs0,hc,CWs.map (fun c x=>CW.stale (fun _ hd=> ?_) (fun k c hd=> ?_) (fun h=>h.elim)) _ _⟩
   ·rcases hd with ⟨hd,_⟩|hd
    ·injection hd with hd;omega
    ·cases hd
   ·rcases hd with ⟨hd,_⟩|hd
    ·injection hd with hd;simp [hd]
    ·cases hd
end
end Go.Ab
end
section
namespace Go.Ab
variable [Inhabited Lb]
theorem d6{w:World}{o:Obj}{k:Nat}(h:k≠w.heap.size):(w.alloc o).heap[k]? =w.heap[k]? :=by
 show(w.heap.push o)[k]? =_;rw [ZU,Zf h]
theorem gS(w:World)(o:Obj):(w.alloc o).heap[w.heap.size]? =some o:=by
 show(w.heap.push o)[w.heap.size]? =_;rw [ZU,Zw rfl]
theorem gG(w:World)(o:Obj):(w.alloc o).heap.size=w.heap.size+1:=YC _
section
variable {C:Ctx} {σ:St} {a:Act} {E:Env} {u u' u'' :Ups} {tt:TT} {o:Oper} {md:Md} {v:AV} {ob:List Prop} {ty:TypeId}
def Env.newBox(E:Env)(d:Nat)(cells:Array Value)(ty:TypeId):Env:=
 { w:=E.w.alloc (.cells cells ty),hw:=E.hw,hdr:=E.hdr,
   ow:=fun b=>if b=E.w.heap.size then some (.box d) else if E.ow b=some (.box d) then none else E.ow b,
   bx:=fun s=>if s=d then E.w.heap.size else E.bx s }
theorem wL{E:Env}{d:Nat}{cells:Array Value}{ty:TypeId}(hn:E.ow E.w.heap.size=none/\E.hw E.w.heap.size=0):
 Step E (E.newBox d cells ty) (fun _ _=>False) (fun s=>s=d) False where
 ro:=fun b hb=>by
  by_cases e:b=E.w.heap.size
  ·subst e;exact⟨fun h=>by omega,fun o ho=>by omega⟩
  ·exact⟨fun _=>by simp [Env.newBox,e,hb],fun o ho=>⟨aT (d6 e) o,ho⟩⟩
 own:=fun b k c p hb _=>by
  have e:b≠E.w.heap.size:=by rintro rfl;rw [hn.1] at hb;cases hb
  exact⟨by simp [Env.newBox,e,hb],rfl,d6 e⟩
 bor:=fun _ b o ho=>by
  have e:b≠E.w.heap.size:=by rintro rfl;omega
  exact⟨aT (d6 e) o,ho⟩
 box:=fun s hs hd=>by
  have e:E.bx s≠E.w.heap.size:=by intro e;rw [e,hn.1] at hs;cases hs
  exact⟨by simp [Env.newBox,hd],by simp [Env.newBox,e,hs,hd],d6 e⟩
 hdr:=rfl
theorem i6{bxs:Nat->Prop}{pl:Pl}{c:Nat}{g:Bool}{vs:List CV}{val:Value}(hv:VR1 E bxs pl c g vs val):VRs E bxs pl c vs val.cells.toList:=by
 cases g with
 |true=>obtain⟨ws,rfl,h⟩:=hv;exact h
 |false=>
  match vs,hv with
  | [y],hv=>
    have h1:=VRc.one hv.1;have:val.cells= #[val]:=by cases val <;>first |rfl|simp [Value.oneCell'] at h1
    rw [this];exact hv
  | [],hv=>exact hv.elim
  |_::_::_,hv=>exact hv.2.elim
theorem nA{w:World}(hi:Inv C (St.get (u++σ)) a.tmps E)(hw:E.w=w){d:Nat}{vs:List CV}{cells:Array Value}{t:TypeId}(hg:St.get (u++σ) (2*d+1)= .none)
 (hv:VRs E (aA (St.get (u++σ))) (.h 0) 0 vs cells.toList) (hns:∀y∈vs,∀k c,¬y.speaks k c):
 Hand C (((2*d+1,.v true vs)::u)++σ) a.tmps (w.alloc (.cells cells t)) 0 (.v false [.ptr d 0]) (.pointer (some ⟨w.heap.size,0,none⟩)):=by
 have hr:=qQ (2*d+1) 0 vs.length;have hn:(E.rel (bJ (2*d+1) 0 vs.length)).ow E.w.heap.size=none/\E.hw E.w.heap.size=0:=by
  have:=hi.new E.w.heap.size (Zi _);exact⟨by simp [Env.rel,this.1],this.2⟩
 have st2:=wL (E:=E.rel (bJ (2*d+1) 0 vs.length)) (d:=d) (cells:=cells) (ty:=t) hn;have st:=((fS hr).trans st2).imp (dk' :=dkS (2*d+1) 0 vs.length) (db' :=fun s' =>s' =d) (mu' :=False) (fun k c h=>h.elim id fun h=>h.elim) (fun s' h=>h.elim (fun h=>h.elim) id) (fun h=>h.elim id id);have hnb:¬aA (St.get (u++σ)) d:=by rintro ⟨cs,h⟩;rw [hg] at h;cases h
 have hb:∀s',aA (St.get (u++σ)) s' ->aA (St.get (((2*d+1,.v true vs)::u)++σ)) s' :=by
  intro s' hs'
  exact dQ (by intro e;have:s' =d:=by omega
               subst this;exact hnb hs') hs'
 have hd:aA (St.get (((2*d+1,.v true vs)::u)++σ)) d:=⟨vs,by show St.get ((2*d+1,_)::(u++σ)) _=_;rw [St.get_cons,Zw rfl]⟩;have hbx:∀s',aA (St.get (u++σ)) s' ->aA (St.get (((2*d+1,.v true vs)::u)++σ)) s' /\((E.rel (bJ (2*d+1) 0 vs.length)).newBox d cells t).bx s' =E.bx s' :=by
  intro s' hs';refine⟨hb s' hs',?_⟩;have:s' ≠d:=by rintro rfl;exact hnb hs'
  simp [Env.newBox,this,Env.rel]
 have hsz:C.B<=E.w.heap.size:=hi.size;subst hw
 refine⟨(E.rel (bJ (2*d+1) 0 vs.length)).newBox d cells t,rfl,hi.step st rfl rfl rfl (by show _<=(E.w.alloc _).heap.size;rw [gG];omega) (fun b hlt h0=> ?_) (fun b hlt=> ?_) (fun b b' l g1 g2=> ?_) (fun b s' h=> ?_) rfl hbx
  (fun t' => .inr ⟨?_,rfl⟩) (fun s' cs2 hs' => ?_),⟨by simp [Env.newBox,Env.rel],hd⟩,trivial⟩
 ·have e:b≠E.w.heap.size:=by omega
  have h1:=(hi.old b hlt h0).2.2;exact⟨d6 e,rfl,by simp [Env.newBox,Env.rel,e,h1]⟩
 ·have hlt' :E.w.heap.size+1<=b:=by have:(E.w.alloc (.cells cells t)).heap.size<=b:=hlt;rwa [gG] at this
  have:=hi.new b (by omega);have e:b≠E.w.heap.size:=by omega
  exact⟨by simp [Env.newBox,Env.rel,e,this.1],this.2⟩
 ·have one:∀b l,((E.rel (bJ (2*d+1) 0 vs.length)).newBox d cells t).ow b=some l->(b=E.w.heap.size/\l= .box d)\/(l≠ .box d/\∃l1,E.ow b=some l1/\bJ (2*d+1) 0 vs.length l1=some l):=by
   intro b l h;simp only [Env.newBox] at h;split at h
   ·rename_i e;injection h with h;exact .inl ⟨e,h.symm⟩
   ·split at h
    ·cases h
    ·rename_i h2;refine .inr ⟨fun e=>h2 (by rw [h,e]),?_⟩;simp only [Env.rel,Zm] at h;exact h
  rcases one b l g1 with ⟨e1,e2⟩|⟨e1,l1,e2,e3⟩ <;>rcases one b' l g2 with ⟨f1,f2⟩|⟨f1,l2,f2,f3⟩
  ·rw [e1,f1]
  ·exact absurd e2 f1
  ·exact absurd f2 e1
  ·have:=hr.inj _ _ _ e3 f3;subst this;exact hi.inj _ _ _ e2 f2
 ·simp only [Env.newBox] at h;split at h
  ·rename_i e;have e:b=E.w.heap.size:=e;show E.hw b=0;rw [e];exact hn.2
  ·split at h
   ·cases h
   ·simp only [Env.rel,Zm] at h;obtain⟨l,a1,c1⟩:=h;cases l with
    |box s2=>exact hi.boxhw b _ a1
    |arr k c p=>exact absurd c1 (hr.arr k c p s')
 ·show AWk _ _ _ (St.get ((2*d+1,_)::(u++σ)) _) _;rw [St.get_cons,Zf (by omega)];refine AWk.map (fun c x=>CW.stale (fun _ hd=> ?_) (fun k c hd=> ?_) (fun h=>h.elim)) _
  ·rcases hd with ⟨hd,_⟩|hd
   ·injection hd with hd;omega
   ·cases hd
  ·rcases hd with ⟨hd,_⟩|hd
   ·injection hd with hd;simp [hd]
   ·cases hd
 ·by_cases e:s' =d
  ·subst e;have e1:St.get ((2*s' +1,.v true vs)::(u++σ)) (2*s' +1)= .v true cs2:=hs';rw [St.get_cons,Zw rfl] at e1;injection e1 with _ e1;subst e1;refine .inl ⟨by simp [Env.newBox,Env.rel],cells,t,by simp only [Env.newBox,Zw];exact gS _ _,cC (aS hv) fun j y z h4 h5=> ?_⟩;have h6:=aZ hv h4 h5;have hj:j<vs.length:=by
    rcases ZG j vs.length with h|h
    ·exact h
    ·rw [ZP h] at h4;cases h4
   have h7:VRc (E.rel (bJ (2*s' +1) 0 vs.length)) (aA (St.get (u++σ))) (.k (2*s' +1)) (0+j) y z:=by
    refine h6.rel hr (fun _ p=> ?_) (fun k1 c1 hs=>absurd hs (hns y (Zs h4) _ _));simp only [bJ,ZB];rw [Zw (by omega),Zj]
   exact VRc.step st2 (fun s hs=>hbx s hs) (by simp) (by simp) (by simp) h7
  ·obtain⟨cs0,hc,rfl⟩:=eM (by omega) hs';refine .inr ⟨e,cs0,hc,CWs.map (fun c x=>CW.stale (fun _ hd=> ?_) (fun k c hd=> ?_) (fun h=>h.elim)) _ _⟩
   ·rcases hd with ⟨hd,_⟩|hd
    ·injection hd with hd;omega
    ·cases hd
   ·rcases hd with ⟨hd,_⟩|hd
    ·injection hd with hd;simp [hd]
    ·cases hd
end
end Go.Ab
end
section
namespace Go.Ab
variable [Inhabited Lb]
theorem oL(off:Nat):∀(l:List Value) (k:Nat) (cs:Array Value),((l.zipIdx k).foldl (fun cs x=>cs.setIfInBounds (off+x.2) x.1) cs).size=cs.size/\
 ∀j,((l.zipIdx k).foldl (fun cs x=>cs.setIfInBounds (off+x.2) x.1) cs)[j]? =if off+k<=j/\j<off+k+l.length/\j<cs.size then l[j - (off+k)]? else cs[j]?
 | [],k,cs=>⟨rfl,fun j=>by rw [Zf];rfl;simp;omega⟩
 |v::r,k,cs=>by
  obtain⟨h1,h2⟩:=oL off r (k+1) (cs.setIfInBounds (off+k) v);simp only [List.zipIdx_cons,List.foldl_cons];refine⟨by rw [h1];simp,fun j=> ?_⟩;rw [h2 j];simp only [Xn,jC];by_cases hj:off+(k+1)<=j/\j<off+(k+1)+r.length/\j<cs.size
  ·rw [Zw hj,Zw (by omega),show j - (off+k)=(j - (off+(k+1)))+1 from by omega]
   rfl
  ·rw [Zf hj];by_cases e:j=off+k/\j<cs.size
   ·rw [Zw (by omega)];obtain⟨rfl,hlt⟩:=e;simp [hlt]
   ·rw [Zf (by omega),YU];split
    ·rename_i e2;subst e2;split
     ·rename_i h5;exact absurd ⟨rfl,h5⟩ e
     ·rename_i h5;rw [Yr (by omega)]
    ·rfl
def dZ(H p m:Nat):Own->Option Own
 | .arr (.k k) c q=>some (.arr (.k k) c q)
 | .arr (.h j) c q=>if j=H then(if p<=c/\c<p+m then none else some (.arr (.h H) c q)) else if j=H+1 then(if c<m then some (.arr (.h H) (p+c) q) else none) else some (.arr (.h j) c q)
 | .box s=>some (.box s)
def dkH(H p m:Nat):Pl->Nat->Prop:=fun pl c=>(pl= .h H/\p<=c/\c<p+m)\/pl= .h (H+1)
theorem uY(H p m:Nat):RhoOk (dZ H p m) (dkH H p m) where
 box:=fun _=>rfl
 id:=fun k c q h=>by
  unfold dkH at h;cases k with
  |k n=>rfl
  |h n=>
   have h1:n≠H+1:=fun e=>h (.inr (by rw [e]));have h2:¬(n=H/\p<=c/\c<p+m):=fun e=>h (.inl ⟨by rw [e.1],e.2⟩);simp only [dZ];by_cases e:n=H
   ·rw [Zw e,Zf fun x=>h2 ⟨e,x⟩,e]
   ·rw [Zf e,Zf h1]
 inj:=fun l1 l2 l h1 h2=>by
  unfold dZ at h1 h2;split at h1 <;>split at h2 <;>(repeat' split at h1) <;>(repeat' split at h2) <;>simp_all <;>(try (subst h1;simp_all)) <;>(try omega)
 arr:=fun k c p s=>by
  cases k <;>simp only [dZ] <;>(repeat' split) <;>simp
theorem CW.refl{dk:Pl->Nat->Prop}(h:∀k c,¬dk (.k k) c){k c:Nat}{x:CV}:CW dk False (.k k) c x x:=
 .inr ⟨rfl,fun _=>h k c,fun k c _=>h k c,fun _ h=>h⟩
theorem CWs.refl{dk:Pl->Nat->Prop}(h:∀k c,¬dk (.k k) c)(k c:Nat)(xs:List CV):CWs dk False (.k k) c xs xs:=by
 have:=CWs.map (dk:=dk) (mu:=False) (pl:= .k k) (f:=id) (fun c x=>CW.refl h) xs c
 rwa [Xp] at this
theorem AWk.refl{dk:Pl->Nat->Prop}(h:∀k c,¬dk (.k k) c)(k:Nat)(x:AV):AWk dk False (.k k) x x:=by
 have:=AWk.map (dk:=dk) (mu:=False) (pl:= .k k) (f:=id) (fun c x=>CW.refl h) x
 rwa [AV.mapC_id (f:=id) (fun _=>rfl)] at this
section
variable {C:Ctx} {σ:St} {a:Act} {tt:TT}
theorem pS(H:Nat){t:TypeId}{place:Nat->Option (Nat×Nat)}{place' :Nat->Option (Nat×Nat)}(hpl:∀i p n,place i=some (p,n)->place' i=some (p,n)):
 ∀(ps:List (Nat×Operand)) (cs:List CV) (u u' :Ups) (cs' :List CV) (vals:Array Value) (E:Env),Inv C (St.get (u++σ)) a.tmps E->VRs E (aA (St.get (u++σ))) (.h H) 0 cs vals.toList->
  (∀y∈cs,∀k c,¬y.speaks k c)->Mr (eV tt t place ps cs) σ u=some (cs',u')->
  ∃E' vals',Instr.fill place' vals (ps.map fun x=>(x.1,a.eval x.2))=some vals' /\E'.w=E.w/\Inv C (St.get (u' ++σ)) a.tmps E' /\
   VRs E' (aA (St.get (u' ++σ))) (.h H) 0 cs' vals'.toList/\(∀y∈cs',∀k c,¬y.speaks k c):=by
 intro ps
 induction ps with
 |nil=>
  intro cs u u' cs' vals E hi hv hns h;obtain⟨rfl,rfl⟩:=aE h;exact⟨E,vals,rfl,rfl,hi,hv,hns⟩
 |cons p ps ih=>
  intro cs u u' cs' vals E hi hv hns h;obtain⟨i,x⟩:=p;simp only [eV] at h;obtain⟨vs,u1,h1,h2⟩:=aC h;obtain⟨E1,g,e1,e2,e3,e4,e5,e6,e7⟩:=pM hi (H+1) h1;split at h2
  ·rename_i p n hp;obtain⟨hn,h2⟩:=aQ h2;obtain⟨cs1,u2,h3,h4⟩:=aC h2;obtain⟨hset,rfl⟩:=cX h3;have hn:vs.length=n:=Zl hn;have hsl:=fV hset;have hvl:=aS hv;have hcells:=i6 e5;have hcl:=aS hcells;have hr:=uY H p vs.length;have hv1:VRs E1 (aA (St.get (u2++σ))) (.h H) 0 cs vals.toList:=by
    have:=VRs.imp (f:=id) (E:=E) (E' :=E1) (bxs:=aA (St.get (u++σ))) (bxs' :=aA (St.get (u2++σ))) (pl:= .h H) (pl' := .h H) (xs:=cs) (c:=0) (c' :=0) (vs:=vals.toList)
     (fun j x v hx hv=>VRc.step e3 (fun s hs=>⟨e6 s hs,by rw [e2]⟩) (fun _ hd=>by
       rcases hd with ⟨t',_,hd⟩|hd
       ·cases hd
       ·injection hd with hd;omega) (fun k c hs=>absurd hs (hns x hx k c)) (by simp) hv) hv
    rwa [Xp] at this
   have hf:=oL p (a.eval x).cells.toList 0 vals;have hv2:VRs (E1.rel (dZ H p vs.length)) (aA (St.get (u2++σ))) (.h H) 0 cs1 (((a.eval x).cells.zipIdx.foldl (fun cs x=>cs.setIfInBounds (p+x.2) x.1) vals)).toList:=by
    rw [<-Array.foldl_toList,Array.toList_zipIdx];refine cC ?_ fun j y z h5 h6=> ?_
    ·rw [hsl.1,hvl];simp [hf.1]
    ·rw [fU hset] at h5;rw [ZY,hf.2 j,Nat.add_zero] at h6;have hvs:vals.size=cs.length:=by rw [hvl];simp
     by_cases hj:p<=j/\j<p+vs.length
     ·rw [Zw hj] at h5;rw [Zw ⟨hj.1,by omega,by omega⟩] at h6;have h7:=aZ hcells h5 h6;refine h7.rel hr (fun _ q=> ?_) (fun k c hs=>absurd hs (e7 y (Zs h5) k c));simp only [dZ];rw [Zf (by omega),Zw trivial,Zw (by omega)]
      congr 2
      omega
     ·rw [Zf hj] at h5;rw [Zf (by omega)] at h6;have h7:=aZ hv1 h5 (by rw [ZY];exact h6);refine h7.rel hr (fun _ q=> ?_) (fun k c hs=>absurd hs (hns y (Zs h5) k c));simp only [dZ,ZB];rw [Zf (by omega)]
   have hi2:Inv C (St.get (u2++σ)) a.tmps (E1.rel (dZ H p vs.length)):=by
    refine e4.rel hr rfl (fun _ h=>h) (fun t' => .inr ⟨?_,rfl⟩) (fun s cs hs=> .inr ⟨cs,hs,?_⟩)
    ·exact AWk.refl (fun k c hd=>by rcases hd with ⟨hd,_⟩|hd <;>cases hd) _ _
    ·exact CWs.refl (fun k c hd=>by rcases hd with ⟨hd,_⟩|hd <;>cases hd) _ _ _
   have hns2:∀y∈cs1,∀k c,¬y.speaks k c:=by
    intro y hy k c;obtain⟨j,hj⟩:=Yp.1 hy;rw [fU hset] at hj;split at hj
    ·exact e7 y (Zs hj) k c
    ·exact hns y (Zs hj) k c
   obtain⟨E',vals',k1,k2,k3,k4,k5⟩:=ih cs1 u2 u' cs' _ _ hi2 hv2 hns2 h4;refine⟨E',vals',?_,k2.trans e1,k3,k4,k5⟩;simp only [ZX,Instr.fill,hpl _ _ _ hp];have hsz:(a.eval x).cells.size=n:=by rw [<-hn,hcl];simp
   have hle:¬(p+(a.eval x).cells.size>vals.size):=by
    have:vals.size=cs.length:=by rw [hvl];simp
    omega
   rw [Zf (by simp [hsz];omega)];exact k1
  ·exact(aD h2).elim
end
end Go.Ab
end
section
namespace Go.Ab
variable [Inhabited Lb]
structure Grown (w w' :World) (cells:Array Value) (ty:TypeId) (fr:Nat×Nat):Prop where
 size:w'.heap.size=w.heap.size+1
 old:∀k,k≠w.heap.size->w'.heap[k]? =w.heap[k]?
 new:w'.heap[w.heap.size]? =some (.cells cells ty fr)
 os:w'.os=w.os
 tape:w'.tape=w.tape
 output:w'.output=w.output
theorem Grown.alloc(w:World)(cells:Array Value)(ty:TypeId):Grown w (w.alloc (.cells cells ty)) cells ty (0,0):=
 ⟨gG _ _,fun _ h=>d6 h,gS _ _,rfl,rfl,rfl⟩
theorem Grown.drew(w:World)(cells:Array Value)(ty:TypeId):Grown w (w.drew.alloc (.cells cells ty)) cells ty (0,0):=
 ⟨gG _ _,fun _ h=>d6 (w:=w.drew) h,gS w.drew _,rfl,rfl,rfl⟩
def Env.newArr(E:Env)(f:Own->Option Own)(l:Own)(m:Nat)(w' :World):Env:=
 { w:=w',hw:=fun b=>if b=E.w.heap.size then m else E.hw b,ow:=fun b=>if b=E.w.heap.size then some l else(E.ow b).bind f,bx:=E.bx,hdr:=E.hdr }
theorem lZ{C:Ctx}{G:Nat->AV}{tmps:Array Value}{E:Env}(hi:Inv C G tmps E){w' :World}{cells:Array Value}{ty:TypeId}{fr:Nat×Nat}(hg:Grown E.w w' cells ty fr)
 {f:Own->Option Own} {dk:Pl->Nat->Prop} (hf:RhoOk f dk) (hdk:∀k c,¬dk (.k k) c) {i c:Nat} {p:List (Nat×Nat)} (hl:∀l',f l' ≠some (.arr (.h i) c p)) (m:Nat):
 Step E (E.newArr f (.arr (.h i) c p) m w') dk (fun _=>False) False/\Inv C G tmps (E.newArr f (.arr (.h i) c p) m w'):=by
 have hn:=hi.new E.w.heap.size (Zi _)
 have st:Step E (E.newArr f (.arr (.h i) c p) m w') dk (fun _=>False) False:= {
  ro:=fun b hb=>by
   by_cases e:b=E.w.heap.size
   ·subst e;exact⟨fun h=>by omega,fun o ho=>by omega⟩
   ·exact⟨fun _=>by simp [Env.newArr,e,hb],fun o ho=>⟨aT (hg.old b e) o,by simp [Env.newArr,e,ho]⟩⟩
  own:=fun b k c p hb hk=>by
   have e:b≠E.w.heap.size:=by rintro rfl;rw [hn.1] at hb;cases hb
   exact⟨by simp [Env.newArr,e,hb,hf.id k c p hk],by simp [Env.newArr,e],hg.old b e⟩
  bor:=fun _ b o ho=>by
   have e:b≠E.w.heap.size:=by rintro rfl;omega
   exact⟨aT (hg.old b e) o,by simp [Env.newArr,e,ho]⟩
  box:=fun s hs hd=>by
   have e:E.bx s≠E.w.heap.size:=by intro e;rw [e,hn.1] at hs;cases hs
   exact⟨rfl,by simp [Env.newArr,e,hs,hf.box],hg.old _ e⟩
  hdr:=rfl }
 refine⟨st,hi.step st hg.os hg.tape hg.output (by show _<=w'.heap.size;rw [hg.size];omega) (fun b hlt h0=> ?_) (fun b hlt=> ?_) (fun b b' l g1 g2=> ?_) (fun b s h=> ?_) rfl (fun s hs=>⟨hs,rfl⟩)
  (fun t=> .inr ⟨AWk.refl hdk _ _,rfl⟩) (fun s cs hs=> .inr ⟨id,cs,hs,CWs.refl hdk _ _ _⟩)⟩
 ·have hsz:=hi.size;have e:b≠E.w.heap.size:=by omega
  exact⟨hg.old b e,by simp [Env.newArr,e],by simp [Env.newArr,e,(hi.old b hlt h0).2.2]⟩
 ·have hlt:w'.heap.size<=b:=hlt;rw [hg.size] at hlt;have e:b≠E.w.heap.size:=by omega
  have:=hi.new b (by omega);exact⟨by simp [Env.newArr,e,this.1],by simp [Env.newArr,e,this.2]⟩
 ·simp only [Env.newArr] at g1 g2;split at g1 <;>split at g2
  ·rename_i e1 e2;rw [e1,e2]
  ·cases g1;simp only [Zm] at g2;obtain⟨l2,_,c2⟩:=g2;exact absurd c2 (hl l2)
  ·cases g2;simp only [Zm] at g1;obtain⟨l1,_,c1⟩:=g1;exact absurd c1 (hl l1)
  ·simp only [Zm] at g1 g2;obtain⟨l1,a1,c1⟩:=g1;obtain⟨l2,a2,c2⟩:=g2;have:=hf.inj _ _ _ c1 c2;subst this;exact hi.inj _ _ _ a1 a2
 ·simp only [Env.newArr] at h ⊢;split at h
  ·cases h
  ·rename_i e;rw [Zf e];simp only [Zm] at h;obtain⟨l,a1,c1⟩:=h;cases l with
   |box s2=>rw [hf.box] at c1;cases c1;exact hi.boxhw b _ a1
   |arr k c p=>exact absurd c1 (hf.arr k c p s)
def Env.growArr(E:Env)(f:Own->Option Own)(b o m:Nat)(vs:List Value):Env:=
 { w:=E.w.setCells b o vs,hw:=fun k=>if k=b then m else E.hw k,ow:=fun k=>(E.ow k).bind f,bx:=E.bx,hdr:=E.hdr }
theorem uX{C:Ctx}{G:Nat->AV}{tmps:Array Value}{E:Env}(hi:Inv C G tmps E){f:Own->Option Own}{dk:Pl->Nat->Prop}(hf:RhoOk f dk)(hdk:∀k c,¬dk (.k k) c)
 {i c b o m:Nat} {p:List (Nat×Nat)} (hb:E.ow b=some (.arr (.h i) c p)) (hd:dk (.h i) c) {cells:Array Value} {ty:TypeId} {fr:Nat×Nat} (hh:E.w.heap[b]? =some (.cells cells ty fr))
 {vs:List Value} (ho:E.hw b<=o) (hm:E.hw b<=m):
 Step E (E.growArr f b o m vs) dk (fun _=>False) False/\Inv C G tmps (E.growArr f b o m vs):=by
 have same:∀k,k≠b->(E.w.setCells b o vs).heap[k]? =E.w.heap[k]? :=fun k h=>cW b k h vs o E.w;have below:∀q,q<E.hw b->(E.w.setCells b o vs).cell? ⟨b,q,none⟩=E.w.cell? ⟨b,q,none⟩:=by
  intro q hq;obtain⟨cs',h1,h2,h3⟩:=dM b vs o E.w hh;have h4:cs'[q]? =cells[q]? :=by rw [h3 q];exact Zf (by omega)
  simp [World.cell?,h1,hh,h4]
 have st:Step E (E.growArr f b o m vs) dk (fun _=>False) False:= {
  ro:=fun k hk=>by
   have e:k≠b:=by rintro rfl;rw [hb] at hk;cases hk
   exact⟨fun _=>by simp [Env.growArr,hk],fun q hq=>⟨aT (same k e) q,by simp [Env.growArr,e,hq]⟩⟩
  own:=fun k l c' p' hk hn=>by
   have e:k≠b:=by rintro rfl;rw [hb] at hk;cases hk;exact hn hd
   exact⟨by simp [Env.growArr,hk,hf.id _ _ _ hn],by simp [Env.growArr,e],same k e⟩
  bor:=fun _ k q hq=>by
   by_cases e:k=b
   ·subst e;exact⟨below q hq,by simp only [Env.growArr,Zw];omega⟩
   ·exact⟨aT (same k e) q,by simp [Env.growArr,e,hq]⟩
  box:=fun s hs _=>by
   have e:E.bx s≠b:=by intro e;rw [e,hb] at hs;cases hs
   exact⟨rfl,by simp [Env.growArr,hs,hf.box],same _ e⟩
  hdr:=rfl }
 obtain⟨o1,o2,o3⟩:=dN b vs o E.w
 refine⟨st,hi.step st o1 o2 o3 (by show _<=(E.w.setCells b o vs).heap.size;rw [dB];exact Zi _) (fun k hlt h0=> ?_) (fun k hlt=> ?_) (fun b1 b2 l g1 g2=> ?_) (fun k s h=> ?_) rfl (fun s hs=>⟨hs,rfl⟩)
  (fun t=> .inr ⟨AWk.refl hdk _ _,rfl⟩) (fun s cs hs=> .inr ⟨id,cs,hs,CWs.refl hdk _ _ _⟩)⟩
 ·have h2:=(hi.old k hlt h0).2.2;have e:k≠b:=by rintro rfl;rw [hb] at h2;cases h2
  exact⟨same k e,by simp [Env.growArr,e],by simp [Env.growArr,h2]⟩
 ·have hlt:(E.w.setCells b o vs).heap.size<=k:=hlt;rw [dB] at hlt;have:=hi.new k hlt;have e:k≠b:=by rintro rfl;rw [hb] at this;cases this.1
  exact⟨by simp [Env.growArr,this.1],by simp [Env.growArr,e,this.2]⟩
 ·simp only [Env.growArr,Zm] at g1 g2;obtain⟨l1,a1,c1⟩:=g1;obtain⟨l2,a2,c2⟩:=g2;have:=hf.inj _ _ _ c1 c2;subst this;exact hi.inj _ _ _ a1 a2
 ·simp only [Env.growArr,Zm] at h ⊢;obtain⟨l,a1,c1⟩:=h;cases l with
  |box s2=>
   rw [hf.box] at c1;cases c1;have e:k≠b:=by rintro rfl;rw [hb] at a1;cases a1
   rw [Zf e];exact hi.boxhw k _ a1
  |arr k c p=>exact absurd c1 (hf.arr k c p s)
theorem eF{w:World}{ok:List (Nat×Nat)->Nat->Nat->Prop}{q:List (Nat×Nat)->Value->Nat->Prop}{b n cap sz:Nat}{rows:List (List D)}{cs:Array Value}{ty:TypeId}{fr:Nat×Nat}
 (hh:w.heap[b]? =some (.cells cs ty fr)) (hn:rows.length=n) (hcap:n<=cap) (hr:∀r∈rows,r.length=sz) (hq:q [] (.slice (some ⟨b,0,none⟩) n cap) sz)
 (hok:∀o,o<n*sz->ok [] b o)
 (hk:∀i j (hi:i<rows.length) (hj:j<rows[i].length),∃u,cs[i*sz+j]? =some u/\RdP w (fun p=>ok ((i,j)::p)) (fun p=>q ((i,j)::p)) u (rows[i][j])):
 RdP w ok q (.slice (some ⟨b,0,none⟩) n cap) (.sl sz rows):=by
 refine .sl b 0 n cap sz rows (fun i j=>(cs[i*sz+j]?).getD undef) hn hcap hr hq (fun i j hi hj=> ?_) (fun i j hi hj=> ?_)
 ·have hi' :i<rows.length:=by omega
  obtain⟨u,h1,h2⟩:=hk i j hi' (by rw [hr _ (Z4 hi')];exact hj);refine⟨?_,hok _ ?_⟩
  ·rw [Zj];simp [World.cell?,hh,h1]
  ·rw [Zj]
   calc i*sz+j<i*sz+sz:=by omega
    _=(i+1)*sz:=by rw [ZM,YJ]
    _<=n*sz:=ZJ _ hi
 ·obtain⟨u,h1,h2⟩:=hk i j hi hj;rw [h1];exact h2
def D.flat:D->Bool
 | .sl _ _=>false
 |_=>true
theorem RdP.flat{w w' :World}{ok ok' :List (Nat×Nat)->Nat->Nat->Prop}{q q' :List (Nat×Nat)->Value->Nat->Prop}{v:Value}{d:D}(hd:d.flat=true)(h:RdP w ok q v d):RdP w' ok' q' v d:=by
 cases h with
 |int k n=>exact .int k n
 |bool b=>exact .bool b
 |str s=>exact .str s
 |nil=>cases hd
 |sl=>cases hd
theorem Ty.flat_toD{T:Ty}(h:T.flat=true)(x:T.den):∀d∈T.toD x,d.flat=true:=by
 cases T <;>first |(simp [Ty.flat] at h;done) |(intro d hd;simp [Ty.toD] at hd;first |(subst hd;rfl) |(rcases hd with rfl|rfl <;>rfl) |(rcases hd with rfl|rfl|rfl|rfl <;>rfl) |(rcases hd with rfl|rfl|rfl|rfl|rfl|rfl <;>rfl))
end Go.Ab
end
section
namespace Go.Ab
variable [Inhabited Lb]
section
variable {C:Ctx} {σ:St} {a:Act} {E:Env} {u u' u'' :Ups} {tt:TT} {o:Oper} {md:Md} {v:AV} {ob:List Prop} {ty:TypeId}
theorem sN{w:World}(htt:aO C.P tt)(hi:Inv C (St.get (u++σ)) a.tmps E)(hw:E.w=w){t:TypeId}{ps:Array (Nat×Operand)}(ho:o.op= .build t ps){i:TI}(hti:tt.get t=some i)
 {z:List CV} (hz:i.zero=some z) (hagg:i.agg=true) {cs:List CV}
 (h:Mr (eV tt 0 (fun f=>match i.offs[f]?,i.fsz[f]? with |some p,some n=>some (p,n) |_,_=>none) ps.toList z) σ u=some (cs,u')):
 Good C (u' ++σ) a w o (.v true cs):=by
 have hk:=htt t i hti;obtain⟨ti,d,h1,h2,h3,h4,h5,h6⟩:=hk.info;obtain⟨zv,hz1,hz2⟩:=h6 z hz;obtain⟨fs,places,hu,hpl,hmap⟩:=hk.built z hz hagg;have hv:VRs E (aA (St.get (u++σ))) (.h 0) 0 z zv.cells.toList:=kJ _ _ _ _ hz2;have hns:∀y∈z,∀k c,¬y.speaks k c:=by
  have key:∀ {z:List CV} {vs:List Value},bB z vs=true->∀y∈z,∀k c,¬y.speaks k c:=by
   intro z
   induction z with
   |nil=>intro vs _ y hy;cases hy
   |cons x xs ih=>
    intro vs h y hy k c hs;cases vs with
    |nil=>simp [bB] at h
    |cons v vs=>
     simp [bB] at h;cases hy with
     |tail _ hy=>exact ih h.2 y hy k c hs
     |head=>
      have h1:=h.1;unfold gE at h1;split at h1 <;>first |exact hs|cases h1
  exact key hz2
 obtain⟨E',vals,k1,k2,k3,k4,k5⟩:=pS 0 (place' :=fun f=>places.toArray[f]?) (fun f p n hp=>by
  split at hp
  ·rename_i p' n' g1 g2;cases hp;simpa using hmap f p n g1 g2
  ·cases hp) ps.toList z u u' cs zv.cells E hi hv hns h
 refine⟨.agg vals,w,?_,E',k2.trans hw,k3,vals,rfl,k4⟩;rw [tU ho];have hb:C.P.built t (ps.map fun x=>(x.1,a.eval x.2)).toList=some vals:=by
  unfold Program.built;simp only [h1,hu,hz1,hpl];rw [YN];exact k1
 rw [run_build w t _ vals hb]
 rfl
def cH(kp nest:Bool)(n:Nat)(src:Nat->List (Nat×Nat)->Option (List (Nat×Nat))):Own->Option Own
 | .arr (.h 0) c p=>match p with
   | []=>if kp=true/\c=0 then some (.arr (.h 0) c []) else none
   |x::r=>if nest=true/\c=0/\x.1<n then some (.arr (.h 0) c (x::r)) else none
 | .arr (.h 1) c p=>if nest=true then(src c p).map (.arr (.h 0) 0 ·) else none
 |l=>some l
def dkA:Pl->Nat->Prop:=fun pl _=>pl= .h 0\/pl= .h 1
theorem jB(k c:Nat):¬dkA (.k k) c:=by rintro (h|h) <;>cases h
structure SrcOk (n:Nat) (src:Nat->List (Nat×Nat)->Option (List (Nat×Nat))):Prop where
 inj:∀c p c' p' q,src c p=some q->src c' p' =some q->c=c' /\p=p'
 new:∀c p q,src c p=some q->∃x r,q=x::r/\n<=x.1
theorem iQ{kp nest:Bool}{n:Nat}{src:Nat->List (Nat×Nat)->Option (List (Nat×Nat))}{l1 l:Own}(h:cH kp nest n src l1=some l):
 ((∀c p,l1≠ .arr (.h 0) c p)/\(∀c p,l1≠ .arr (.h 1) c p)/\l=l1)\/(l1= .arr (.h 0) 0 []/\kp=true/\l=l1)\/(∃x r,l1= .arr (.h 0) 0 (x::r)/\x.1<n/\l=l1)\/
   (∃c p q,l1= .arr (.h 1) c p/\src c p=some q/\l= .arr (.h 0) 0 q):=by
 unfold cH at h;split at h
 ·split at h
  ·split at h
   ·rename_i hc;cases h;exact .inr (.inl ⟨by rw [hc.2],hc.1,rfl⟩)
   ·cases h
  ·split at h
   ·rename_i hc;cases h;obtain⟨_,rfl,h3⟩:=hc;exact .inr (.inr (.inl ⟨_,_,rfl,h3,rfl⟩))
   ·cases h
 ·split at h
  ·simp only [Z8] at h;obtain⟨q,h1,h2⟩:=h;exact .inr (.inr (.inr ⟨_,_,q,rfl,h1,h2.symm⟩))
  ·cases h
 ·cases h;rename_i h0 h1;exact .inl ⟨h0,h1,rfl⟩
theorem iR{kp nest:Bool}{n:Nat}{src:Nat->List (Nat×Nat)->Option (List (Nat×Nat))}(hs:SrcOk n src):RhoOk (cH kp nest n src) dkA where
 box:=fun _=>rfl
 id:=fun k c p h=>by
  unfold dkA at h;cases k with
  |k m=>rfl
  |h m=>
   match m,h with
   |0,h=>exact absurd (.inl rfl) h
   |1,h=>exact absurd (.inr rfl) h
   |_+2,_=>rfl
 inj:=fun l1 l2 l h1 h2=>by
  rcases iQ h1 with ⟨a1,a2,rfl⟩|⟨rfl,_,rfl⟩|⟨x,r,rfl,hx,rfl⟩|⟨c,p,q,rfl,hq,rfl⟩ <;>
   rcases iQ h2 with ⟨b1,b2,e⟩|⟨e1,_,e⟩|⟨y,s,e1,hy,e⟩|⟨c',p',q',e1,hq',e⟩
  ·exact e
  ·exact e
  ·exact e
  ·exact absurd e (a1 _ _)
  ·exact e
  ·exact e
  ·exact e
  ·obtain⟨x,r,rfl,_⟩:=hs.new _ _ _ hq';cases e
  ·exact e
  ·exact e
  ·exact e
  ·obtain⟨x',r',rfl,hx'⟩:=hs.new _ _ _ hq';cases e;omega
  ·exact absurd e.symm (b1 _ _)
  ·subst e1;cases e;obtain⟨x',r',h3,hx'⟩:=hs.new _ _ _ hq;cases h3
  ·subst e1;cases e;obtain⟨x',r',h3,hx'⟩:=hs.new _ _ _ hq;cases h3;omega
  ·subst e1;cases e;obtain⟨rfl,rfl⟩:=hs.inj _ _ _ _ _ hq hq';rfl
 arr:=fun k c p s h=>by
  rcases iQ h with ⟨a1,a2,e⟩|⟨_,_,e⟩|⟨_,_,_,_,e⟩|⟨_,_,_,_,_,e⟩ <;>cases e
theorem kU{nest:Bool}{n:Nat}{src:Nat->List (Nat×Nat)->Option (List (Nat×Nat))}(hs:SrcOk n src)(l' :Own):cH false nest n src l' ≠some (.arr (.h 0) 0 []):=by
 intro h;rcases iQ h with ⟨a1,a2,e⟩|⟨_,e,_⟩|⟨_,_,e1,_,e⟩|⟨_,_,q,_,hq,e⟩
 ·exact a1 _ _ e.symm
 ·cases e
 ·rw [e1] at e;cases e
 ·obtain⟨x,r,rfl,_⟩:=hs.new _ _ _ hq;cases e
def fA(E E' :Env)(l l' :Own):Prop:=∀b,E.ow b=some l->E'.ow b=some l' /\E'.hw b=E.hw b/\E'.w.heap[b]? =E.w.heap[b]?
theorem Tip.moves{E E' :Env}{l l' :Own}(hm:fA E E' l l'){v:Value}{sz:Nat}(h:Tip E l v sz):Tip E' l' v sz:=by
 unfold Tip at h ⊢;split at h
 ·obtain⟨h1,h2,h3,cs,ty,lo,hi,h4,h5⟩:=h;obtain⟨a,b,d⟩:=hm _ h1;exact⟨a,b.trans h2,h3,cs,ty,lo,hi,d.trans h4,h5⟩
 ·exact h
 ·exact h.elim
theorem eW{E E' :Env}{k k' :Pl}{c c' :Nat}{p0:List (Nat×Nat)}{g:List (Nat×Nat)->List (Nat×Nat)}{v:Value}{d:D}
 (hm:∀p,fA E E' (.arr k c (p0++p)) (.arr k' c' (g p))) (h:RdP E.w (fun p=>okF E k c .own (p0++p)) (fun p=>qF E k c .own (p0++p)) v d):
 RdP E'.w (fun p=>okF E' k' c' .own (g p)) (fun p=>qF E' k' c' .own (g p)) v d:=
 h.mono (fun p b o ho=>by obtain⟨a1,a2,a3⟩:=hm p b ho.2;exact⟨aT a3 o,by rw [a2];exact ho.1,a1⟩) (fun p v sz ht=>Tip.moves (hm p) ht)
theorem mH{E E' :Env}{k k' :Pl}{c c' :Nat}{p0:List (Nat×Nat)}{fl:Fl}(hfl:fl= .own\/fl= .tip\/fl= .ro){x:Nat×Nat}{q:List (Nat×Nat)->Value->Nat->Prop}{v:Value}{d:D}
 (hz:∀b o,o<E.hw b->(E.ow b=none\/∃p,E.ow b=some (.arr k c (p0++p)))->E'.w.cell? ⟨b,o,none⟩=E.w.cell? ⟨b,o,none⟩/\o<E'.hw b/\E'.ow b=none)
 (h:RdP E.w (fun p=>okF E k c fl (p0++p)) q v d):RdP E'.w (fun p=>okF E' k' c' .tip (x::p)) (fun p=>qF E' k' c' .tip (x::p)) v d:=by
 refine h.mono (fun p b o ho=> ?_) (fun p v sz _ hp=>by cases hp);have:o<E.hw b/\(E.ow b=none\/∃p,E.ow b=some (.arr k c (p0++p))):=by
  rcases hfl with rfl|rfl|rfl
  ·exact⟨ho.1,.inr ⟨p,ho.2⟩⟩
  ·refine⟨ho.1,?_⟩;by_cases e:p0++p=[]
   ·exact .inr ⟨p,ho.2.1 e⟩
   ·exact .inl (ho.2.2 e)
  ·exact⟨ho.1,.inl ho.2⟩
 obtain⟨a1,a2,a3⟩:=hz b o this.1 this.2;exact⟨a1,⟨a2,⟨(fun hp=>absurd hp (XV _ _)),fun _=>a3⟩⟩⟩
def CV.fits(own:Bool):CV->Bool
 | .int _ _=>true
 | .bool _=>true
 | .str _=>true
 | .sl .own _ _=>true
 | .sl .ro _ _=> !own
 | .sl .tip _ _=> !own
 |_=>false
theorem CV.fits_weak{y:CV}{b b' :Bool}(hb:b' =true->b=true)(hy:y.fits b=true):y.fits b' =true:=by
 cases y with
 |sl g T xs=>cases g <;>cases b <;>cases b' <;>simp [CV.fits] at hb hy ⊢
 |_=>simp [CV.fits] at hy ⊢
theorem pG{cs:List CV}:∀ {f:Fl},c9 cs=some f->(f= .own\/f= .ro)/\∀y∈cs,y.fits (decide (f= .own))=true:=by
 induction cs with
 |nil=>intro f h;cases h;exact⟨.inl rfl,fun y hy=>by cases hy⟩
 |cons x xs ih=>
  intro f h;have keep:∀ {f:Fl},c9 xs=some f->(∀b,x.fits b=true)->(f= .own\/f= .ro)/\∀y∈x::xs,y.fits (decide (f= .own))=true:=by
   intro f h hx;obtain⟨h1,h2⟩:=ih h;exact⟨h1,fun y hy=>by rcases Zo.1 hy with rfl|hy;exact hx _;exact h2 y hy⟩
  have turn:((c9 xs).map fun _=>Fl.ro)=some f->x.fits false=true->(f= .own\/f= .ro)/\∀y∈x::xs,y.fits (decide (f= .own))=true:=by
   intro h hx;simp only [Z8] at h;obtain⟨g,h1,h2⟩:=h;subst h2;obtain⟨_,h2⟩:=ih h1;refine⟨.inr rfl,fun y hy=> ?_⟩;rcases Zo.1 hy with rfl|hy
   ·exact hx
   ·have:=h2 y hy;cases y with
    |sl g T xs=>cases g <;>simp_all [CV.fits]
    |_=>simp_all [CV.fits]
  cases x with
  |int k n=>exact keep h fun _=>rfl
  |bool b=>exact keep h fun _=>rfl
  |str t=>exact keep h fun _=>rfl
  |sl g T ys=>
   cases g with
   |own=>exact keep h fun _=>rfl
   |ro=>exact turn h rfl
   |tip=>exact turn h rfl
   |_=>cases h
  |_=>cases h
theorem qC{T:Ty}:∀ {n:Nat} {cs:List CV} {xs:List T.den} {f:Fl},eE T n cs=some (xs,f)->
 cs.length=n*T.sz/\xs.length=n/\(f= .own\/f= .ro)/\∀i j (hi:i<xs.length) (hj:j<(T.toD xs[i]).length),∃y,cs[i*T.sz+j]? =some y/\y.toD=(T.toD xs[i])[j]/\y.fits (decide (f= .own))=true:=by
 intro n
 induction n with
 |zero=>
  intro cs xs f h;cases cs with
  |nil=>cases h;exact⟨by simp,rfl,.inl rfl,fun i j hi=>absurd hi (YY _)⟩
  |cons=>cases h
 |succ n ih=>
  intro cs xs f h;unfold eE at h;split at h
  ·rename_i x g ys f' h1 h2 h3;cases h;obtain⟨a1,a2,a3,a4⟩:=ih h3;obtain⟨b1,b2⟩:=pG h2;have htd:=Ty.dec_toD T _ x h1;have htl:(cs.take T.sz).length=T.sz:=by rw [<-Zr (f:=CV.toD),<-htd,Ty.toD_length]
   have hle:T.sz<=cs.length:=by rw [ZT] at htl;omega
   have hl:cs.length=(n+1)*T.sz:=by
    rw [Yx] at a1;rw [ZM,YJ];omega
   refine⟨hl,by simp [a2],?_,fun i j hi hj=> ?_⟩
   ·split
    ·exact a3
    ·exact .inr rfl
   ·cases i with
    |zero=>
     have hj' :j<(cs.take T.sz).length:=by rw [htl,<-Ty.toD_length T x];exact hj
     refine⟨(cs.take T.sz)[j],?_,?_,?_⟩
     ·rw [X8,Zj,<-Zx hj',YL,Zw (by omega)]
     ·have:(T.toD x)[j]? =some ((cs.take T.sz)[j]).toD:=by rw [htd,Zn,Zx hj'];rfl
      rw [Zt] at this;obtain⟨_,this⟩:=this;exact this.symm
     ·refine CV.fits_weak (fun hb=> ?_) (b2 _ (Z4 hj'));simp only [Z1] at hb ⊢;split at hb
      ·rename_i e;exact e
      ·cases hb
    |succ i=>
     obtain⟨y,c1,c2,c3⟩:=a4 i j (by simpa using hi) hj;refine⟨y,?_,c2,CV.fits_weak (fun hb=> ?_) c3⟩
     ·rw [Y7] at c1;rw [<-c1];congr 1;rw [ZM];omega
     ·simp only [Z1] at hb ⊢;split at hb
      ·exact hb
      ·cases hb
  ·cases h
theorem sY{E E' :Env}{bxs:Nat->Prop}{c i j:Nat}{own:Bool}{y:CV}{v:Value}(hy:y.fits own=true)(hv:VRc E bxs (.h 1) c y v)
 (hm:own=true->∀p,fA E E' (.arr (.h 1) c p) (.arr (.h 0) 0 ((i,j)::p)))
 (hz:own=false->∀b o,o<E.hw b->(E.ow b=none\/∃p,E.ow b=some (.arr (.h 1) c p))->E'.w.cell? ⟨b,o,none⟩=E.w.cell? ⟨b,o,none⟩/\o<E'.hw b/\E'.ow b=none):
 RdP E'.w (fun p=>okF E' (.h 0) 0 (if own then .own else .tip) ((i,j)::p)) (fun p=>qF E' (.h 0) 0 (if own then .own else .tip) ((i,j)::p)) v y.toD:=by
 cases y with
 |int k n=>obtain rfl:v=_:=hv;exact .int k n
 |bool b=>obtain rfl:v=_:=hv;exact .bool b
 |str t=>obtain⟨s,rfl,rfl⟩:=hv;exact .str s
 |sl g T xs=>
  cases own with
  |true=>
   cases g <;>first |(simp [CV.fits] at hy;done) |skip
   exact eW (p0:=[]) (fun p=>hm rfl p) hv
  |false=>
   have hg:g= .own\/g= .tip\/g= .ro:=by cases g <;>simp [CV.fits] at hy ⊢
   exact mH (p0:=[]) hg (hz rfl) hv
 |_=>simp [CV.fits] at hy
theorem oI{α:Type}(l:List α):∀(n j:Nat),j<n*l.length->(List.replicate n l).flatten[j]? =l[j % l.length]?
 |0,j,h=>by simp at h
 |n+1,j,h=>by
  rw [List.replicate_succ,List.flatten_cons];by_cases hj:j<l.length
  ·rw [Ze hj,XY hj]
  ·rw [Z3 (by omega),oI l n (j - l.length) (by rw [ZM] at h;omega),Nat.mod_eq_sub_mod (by omega:j>=l.length)]
theorem qZ{E:Env}{bxs:Nat->Prop}{pl:Pl}{l:List CV}{z:Array Value}(hz:bB l z.toList=true)(n:Nat):
 VRs E bxs pl 0 (List.replicate n l).flatten ((Array.range (n*l.length)).map (z[· % z.size]!)).toList:=by
 have hl:=kI hz;have hl:z.size=l.length:=by rw [<-hl];simp
 have hv:=kJ E bxs pl 0 hz;refine cC (by simp) fun j x v h1 h2=> ?_;have hj:j<n*l.length:=by
  have:=(Zt.1 h1).1;simpa using this
 rw [oI l n j hj] at h1;simp only [YN,Array.toList_range,Zn,YB hj,Option.map_some,ZL] at h2;have hp:0<l.length:=by
  rcases Nat.eq_zero_or_pos l.length with h|h
  ·rw [h] at hj;simp at hj
  ·exact h
 have hm:j % l.length<z.toList.length:=by have:=Xk j hp;simp only [Array.length_toList];omega
 have h3:=aZ hv h1 (Zx hm);have e:z.toList[j % l.length]=v:=by
  rw [<-h2,hl,getElem!_pos z _ (by simpa using hm)];simp
 rw [e] at h3;have:∀y∈l,y.owning=false\/∃T,y= .sl .own T []:=by
  have key:∀ {z:List CV} {vs:List Value},bB z vs=true->∀y∈z,y.owning=false\/∃T,y= .sl .own T []:=by
   intro z
   induction z with
   |nil=>intro vs _ y hy;cases hy
   |cons x xs ih=>
    intro vs h y hy;cases vs with
    |nil=>simp [bB] at h
    |cons v vs=>
     simp [bB] at h;cases hy with
     |tail _ hy=>exact ih h.2 y hy
     |head=>
      have h1:=h.1;unfold gE at h1;split at h1 <;>first |exact .inl rfl|exact .inr ⟨_,rfl⟩|cases h1
  exact key hz
 rcases this x (Zs h1) with h|⟨T,rfl⟩
 ·exact VRc.any h h3
 ·have h4:=kJ E bxs pl (j - j % l.length) hz;have h5:=aZ h4 h1 (Zx hm);rw [e,Nat.sub_add_cancel (Nat.mod_le _ _)] at h5;rw [Zj];exact h5
def fX(sz:Nat)(c:Nat)(p:List (Nat×Nat)):Option (List (Nat×Nat)):=if 0<sz then some ((c / sz,c % sz)::p) else none
theorem yA(sz:Nat):SrcOk 0 (fX sz) where
 inj:=fun c p c' p' q h1 h2=>by
  unfold fX at h1 h2;split at h1
  ·rename_i h;rw [Zw h] at h2;rw [<-h2] at h1;simp only [ZL,Y6,YT] at h1;obtain⟨⟨e1,e2⟩,e3⟩:=h1;have h3:=Xi c sz;have h4:=Xi c' sz;rw [e1,e2] at h3;exact⟨by omega,e3⟩
  ·cases h1
 new:=fun c p q h=>by
  unfold fX at h;split at h
  ·cases h;exact⟨_,_,rfl,Z9 _⟩
  ·cases h
theorem l8{w w' :World}(hi:Inv C (St.get (u++σ)) a.tmps E)(hw:E.w=w){T:Ty}{n cap:Nat}{cs:List CV}{xs:List T.den}{f:Fl}(hr:eE T n cs=some (xs,f))
 {cells:Array Value} {e:TypeId} {fr:Nat×Nat} (hg:Grown w w' cells e fr) {vals:List Value} (hv:VRs E (aA (St.get (u++σ))) (.h 1) 0 cs vals) (hvals:∀j,j<vals.length->cells[j]? =vals[j]?)
 (hcap:n<=cap) (hsz:cap*T.sz=cells.size) (hfr:∀o,fr.1<=o->o<fr.2->cap*T.sz<=o):
 Hand C (u++σ) a.tmps w' 0 (.v false [.sl (if f= .own then .own else .tip) T xs]) (.slice (some ⟨w.heap.size,0,none⟩) n cap):=by
 subst hw;obtain⟨r1,r2,r3,r4⟩:=qC hr;have hsrc:=yA T.sz;have hflag:(if f= .own then Fl.own else Fl.tip)=(if decide (f= .own)=true then Fl.own else Fl.tip):=by simp
 rw [hflag];generalize decide (f= .own)=nest at*;obtain⟨st,hi'⟩:=lZ hi hg (iR (kp:=false) (nest:=nest) hsrc) jB (kU hsrc) (n*T.sz);have hn:=hi.new E.w.heap.size (Zi _);refine⟨_,rfl,hi',?_,trivial⟩;generalize hE:E.newArr (cH false nest 0 (fX T.sz)) (.arr (.h 0) 0 []) (n*T.sz) w' =E';have how:E'.ow E.w.heap.size=some (.arr (.h 0) 0 [])/\E'.hw E.w.heap.size=n*T.sz:=by rw [<-hE];simp [Env.newArr]
 have hE'w:E'.w=w' :=by rw [<-hE];rfl
 have old:∀b,b≠E.w.heap.size->E'.ow b=(E.ow b).bind (cH false nest 0 (fX T.sz))/\E'.hw b=E.hw b/\E'.w.heap[b]? =E.w.heap[b]? :=by
  intro b hb;rw [<-hE];exact⟨by simp [Env.newArr,hb],by simp [Env.newArr,hb],hg.old b hb⟩
 have hlen:∀r∈xs.map T.toD,r.length=T.sz:=by
  intro r hr;obtain⟨x,_,rfl⟩:=Zk.1 hr;exact Ty.toD_length T x
 have hTip:Tip E' (.arr (.h 0) 0 []) (.slice (some ⟨E.w.heap.size,0,none⟩) n cap) T.sz:=
  ⟨how.1,how.2,hcap,cells,e,fr.1,fr.2,by rw [hE'w];exact hg.new,hsz,hfr⟩
 show RdP E'.w _ _ _ (.sl T.sz (xs.map T.toD));refine eF (by rw [hE'w];exact hg.new) (by simp [r2]) hcap hlen ?_ (fun o ho=> ?_) (fun i j hi hj=> ?_)
 ·cases nest with
  |true=>exact hTip
  |false=>exact fun _=>hTip
 ·have hh:o<E'.hw E.w.heap.size:=by rw [how.2];exact ho
  cases nest with
  |true=>exact⟨hh,how.1⟩
  |false=>exact⟨hh,fun _=>how.1,fun h=>absurd rfl h⟩
 ·have hi2:i<xs.length:=by simpa using hi
  have hj2:j<(T.toD xs[i]).length:=by simpa using hj
  obtain⟨y,y1,y2,y3⟩:=r4 i j hi2 hj2;have hjs:j<T.sz:=by rw [Ty.toD_length] at hj2;exact hj2
  have hlt:i*T.sz+j<vals.length:=by rw [<-aS hv];exact(Zt.1 y1).1
  have hvc:=aZ hv y1 (Zx hlt);refine⟨vals[i*T.sz+j],by rw [hvals _ hlt,Zx hlt],?_⟩;have hz:=Ty.sz_pos T;have hdiv:(0+(i*T.sz+j)) / T.sz=i:=by
   rw [Zj,X4,Nat.add_mul_div_right _ _ hz,Nat.div_eq_of_lt hjs,Zj]
  have hmod:(0+(i*T.sz+j)) % T.sz=j:=by
   rw [Zj,X4,XP,XY hjs]
  have key:=sY (E' :=E') (i:=i) (j:=j) y3 hvc (fun ho p b hb=> ?_) (fun ho b o h1 h2=> ?_)
  ·simp only [Z7];simp only [<-y2];exact key
  ·have hbn:b≠E.w.heap.size:=by rintro rfl;rw [hn.1] at hb;cases hb
   obtain⟨o1,o2,o3⟩:=old b hbn;refine⟨?_,o2,o3⟩;rw [o1,hb];subst ho;simp only [jS,cH,fX,ZB,Zw hz,Option.map_some,hdiv,hmod]
  ·have hbn:b≠E.w.heap.size:=by rintro rfl;omega
   obtain⟨o1,o2,o3⟩:=old b hbn;refine⟨aT o3 o,by rw [o2];exact h1,?_⟩;rw [o1];subst ho;rcases h2 with h2|⟨p,h2⟩ <;>rw [h2] <;>simp [cH]
theorem sM{w:World}(htt:aO C.P tt)(hi:Inv C (St.get (u++σ)) a.tmps E)(hw:E.w=w){t:TypeId}{n:Nat}{ps:Array (Nat×Operand)}(ho:o.op= .buildSlice t n ps){i:TI}(hti:tt.get t=some i)
 {e:TypeId} {T:Ty} (he:i.elem=some (e,T)) (hn:n<=1000) {cs:List CV}
 (h:Mr (eV tt e (fun k=>some (k*T.sz,T.sz)) ps.toList (List.replicate n (T.enc .own T.dflt)).flatten) σ u=some (cs,u')) {xs:List T.den} {f:Fl} (hr:eE T n cs=some (xs,f)):
 Good C (u' ++σ) a w o (.v false [.sl (if f= .own then .own else .tip) T xs]):=by
 have hk:=htt t i hti;obtain⟨hu,te,zv,h1,h2,h3,h4,h5,h6⟩:=hk.elem e T he;have hencl:=Ty.enc_length .own T T.dflt;have hv0:=qZ (E:=E) (bxs:=aA (St.get (u++σ))) (pl:= .h 1) h6 n;rw [hencl] at hv0;have hns:∀y∈(List.replicate n (T.enc .own T.dflt)).flatten,∀k c,¬y.speaks k c:=by
  intro y hy k c hs;obtain⟨l,hl,hy⟩:=List.mem_flatten.1 hy;rw [List.eq_of_mem_replicate hl] at hy;rcases fG _ _ _ _ hy with ⟨_,_,rfl⟩|⟨_,rfl⟩|⟨_,_,rfl⟩ <;>exact hs
 obtain⟨E1,vals,k1,k2,k3,k4,k5⟩:=pS 1 (place' :=fun k=>some (k*te.size,te.size)) (fun k p m hp=>by rw [h2];exact hp) ps.toList _ u u' cs _ E hi hv0 hns h;have hg:=Grown.alloc w vals e;obtain⟨r1,r2,r3,r4⟩:=qC hr;have hvl:vals.size=n*T.sz:=by rw [<-r1,aS k4];simp
 have hand:=l8 (a:=a) k3 (k2.trans hw) hr hg k4 (fun j _=>by simp) (Zi n) (hvl.symm) (fun o _ h=>absurd h (YY o));refine⟨_,_,?_,hand⟩;rw [tV ho];have hsz:=Ty.sz_pos T;have hs11:T.sz<=11:=by cases T <;>decide
 have hsmall:¬(n*te.size>2 ^ 24):=by
  rw [h2];have:n*T.sz<=1000*11:=YH hn hs11;omega
 have hzl:zv.cells.size=T.sz:=by
  have:=kI h6;rw [hencl] at this;simpa using this
 by_cases h0:n*te.size=0
 ·have:n=0:=by
   rcases Nat.mul_eq_zero.1 h0 with h|h
   ·exact h
   ·omega
  subst this;have e1:((Array.range (0*T.sz)).map (zv.cells[· % zv.cells.size]!))=(Array.range (0*te.size)).map ((#[]:Array Value)[· % (#[]:Array Value).size]!):=by simp
  rw [e1] at k1;have k1' :Instr.fill (fun k=>some (k*te.size,te.size)) ((Array.range (0*te.size)).map ((#[]:Array Value)[· % (#[]:Array Value).size]!)) (ps.map fun x=>(x.1,a.eval x.2)).toList=some vals:=by
   rw [YN];exact k1
  simp only [X8] at k1';simp [Instr.buildSlice,run_underlying hu,sizeOf,typeInfo,h1,newRow,bF];simp at k1';rw [k1'];simp
 ·have k1' :Instr.fill (fun k=>some (k*te.size,te.size)) ((Array.range (n*te.size)).map (zv.cells[· % zv.cells.size]!)) (ps.map fun x=>(x.1,a.eval x.2)).toList=some vals:=by
   rw [YN,h2];rw [h2] at k1;exact k1
  rw [run_buildSlice w t e n _ vals te zv hu h1 h5 hsmall h0 k1']
  rfl
end
end Go.Ab
end
section
namespace Go.Ab
variable [Inhabited Lb]
theorem Ty.dec_enc(f:Fl)(T:Ty)(x:T.den):T.dec (T.enc f x)=some x:=by
 cases T with
 |val=>cases x;rfl
 |exp=>cases x;rfl
 |rea=>obtain⟨a,b,c,d,v⟩:=x;cases v;rfl
 |bnd=>obtain⟨a,v⟩:=x;cases v;rfl
 |_=>rfl
theorem wK(T:Ty)(x:T.den):c9 (T.enc .own x)=some .own:=by cases T <;>rfl
theorem mJ(T:Ty):∀(xs:List T.den),eE T xs.length (xs.map (T.enc .own)).flatten=some (xs,.own)
 | []=>rfl
 |x::xs=>by
  have hl:=Ty.enc_length .own T x;simp only [jC,ZX,List.flatten_cons,eE];rw [<-hl,List.take_left,List.drop_left,Ty.dec_enc,wK,mJ T xs];simp
section
variable {C:Ctx} {σ:St} {a:Act} {E:Env} {u u' u'' :Ups} {tt:TT} {o:Oper} {md:Md} {v:AV} {ob:List Prop} {ty:TypeId}
theorem vY{w:World}(htt:aO C.P tt)(hi:Inv C (St.get (u++σ)) a.tmps E)(hw:E.w=w){t:TypeId}{l c:Operand}(ho:o.op= .makeSlice t l c){i:TI}(hti:tt.get t=some i)
 {e:TypeId} {T:Ty} (he:i.elem=some (e,T)) {n m:Int} (hl:a.eval l= .int .i64 n) (hc:a.eval c= .int .i64 m) (hob:0<=n/\n=m/\n<=Lim):
 Good C (u++σ) a w o (.v false [.sl .own T (List.replicate n.toNat T.dflt)]):=by
 have hk:=htt t i hti;obtain⟨hu,te,zv,h1,h2,h3,h4,h5,h6⟩:=hk.elem e T he;obtain⟨h0,rfl,hL⟩:=hob;have hencl:=Ty.enc_length .own T T.dflt;have hv0:=qZ (E:=E) (bxs:=aA (St.get (u++σ))) (pl:= .h 1) h6 n.toNat;rw [hencl] at hv0;have hr:=mJ T (List.replicate n.toNat T.dflt);rw [List.length_replicate,List.map_replicate] at hr;have hg:=Grown.alloc w (madeCells zv.cells (n.toNat*te.size)) e;have hsz:=size_madeCells zv.cells (n.toNat*te.size);have hL' :n<=274877906944:=hL;have hand:=l8 (a:=a) (cap:=n.toNat) hi hw hr hg hv0 (fun j _=>by rw [h2,madeCells,ZY]) (Zi _) (by rw [hsz,h2]) (fun o _ h=>absurd h (YY o));simp only [ZB] at hand;refine⟨_,_,?_,hand⟩;rw [tZ ho,hl,hc];have hb:(te.bytes:Int)*n<=281474976710656:=by
  have h7:(te.bytes:Int)<=256:=by omega
  have:(te.bytes:Int)*n<=256*n:=Int.mul_le_mul_of_nonneg_right h7 h0;omega
 rw [run_make w t e te zv hu h1 h5 .i64 .i64 n n h0 (XT _) hb (by omega)]
 rfl
theorem pX{w:World}{ok:List (Nat×Nat)->Nat->Nat->Prop}{q:List (Nat×Nat)->Value->Nat->Prop}{v:Value}{sz:Nat}{rows:List (List D)}(h:RdP w ok q v (.sl sz rows))(hz:0<sz):
 ∃(ad:Option Addr) (cap:Nat) (vals:List Value),v= .slice ad rows.length cap/\rows.length<=cap/\vals.length=rows.length*sz/\(rows=[]\/∃b off,ad=some ⟨b,off,none⟩/\∀j u,vals[j]? =some u->w.cell? ⟨b,off+j,none⟩=some u)/\
  (∀r∈rows,r.length=sz)/\(∀i j (hi:i<rows.length) (hj:j<rows[i].length),∃u,vals[i*sz+j]? =some u/\RdP w (fun p=>ok ((i,j)::p)) (fun p=>q ((i,j)::p)) u (rows[i][j])):=by
 cases h with
 |nil a cap sz hq=>exact⟨a,cap,[],rfl,Z9 _,by simp,.inl rfl,fun r hr=>(by cases hr),fun i j hi=>absurd hi (YY _)⟩
 |sl b off n cap sz rows u hn hcap hr hq hc hk=>
  subst hn;have idx:∀i j,i<rows.length->j<sz->i*sz+j<rows.length*sz:=by
   intro i j hi hj
   calc i*sz+j<i*sz+sz:=by omega
    _=(i+1)*sz:=by rw [ZM,YJ]
    _<=rows.length*sz:=ZJ _ hi
  refine⟨some ⟨b,off,none⟩,cap,(List.range (rows.length*sz)).map fun k=>u (k / sz) (k % sz),rfl,hcap,by simp,.inr ⟨b,off,rfl,fun k y hy=> ?_⟩,hr,fun i j hi hj=> ?_⟩
  ·rw [Zn,Z8] at hy;obtain⟨k',hk',rfl⟩:=hy;obtain⟨hlt,e⟩:=Zt.1 hk';rw [List.getElem_range] at e;subst e;rw [X1] at hlt;have h1:k / sz<rows.length:=Nat.div_lt_of_lt_mul (by rw [X7];exact hlt);have h2:=(hc (k / sz) (k % sz) h1 (Xk _ hz)).1;rw [Yt,X7 (k / sz) sz,Xi] at h2;exact h2
  ·have hj' :j<sz:=by rw [<-hr _ (Z4 hi)];exact hj
   refine⟨u i j,?_,hk i j hi hj⟩;rw [Zn,YB (idx i j hi hj'),Option.map_some];have h1:(i*sz+j) / sz=i:=by rw [X4,Nat.add_mul_div_right _ _ hz,Nat.div_eq_of_lt hj',Zj]
   have h2:(i*sz+j) % sz=j:=by rw [X4,XP,XY hj']
   rw [h1,h2]
theorem uK(ns:List Int):∀(s:ByteArray),(ns.foldl (fun r n=>r.push (UInt8.ofNat n.toNat)) s).data.toList=s.data.toList++ns.map fun n=>UInt8.ofNat n.toNat:=by
 induction ns with
 |nil=>intro s;simp
 |cons n ns ih=>intro s;rw [List.foldl_cons,ih];cases s;simp [ByteArray.push]
theorem tD{w:World}(htt:aO C.P tt)(hi:Inv C (St.get (u++σ)) a.tmps E)(hw:E.w=w){s d:TypeId}{x:Operand}(ho:o.op= .convert s d x){i j:TI}(hti:tt.get s=some i)(htj:tt.get d=some j)
 {k k' :IntKind} {n:Int} (hk' :j.ik=some k') (hx:a.eval x= .int k n):Good C (u++σ) a w o (.v false [.int k' (k'.wrap n)]):=by
 refine Good.cell hi hw (val:= .int k' (k'.wrap n)) ?_ rfl;have hd:=(htt d j htj).ik k' hk';obtain⟨_,ds,_,_,hs,_⟩:=(htt s i hti).info;rw [lE ho,hx];simp only [convert,Sem.run_bind,run_underlying hs,run_underlying hd,Result.andThen_ok];cases ds <;>rfl
theorem tC{w:World}(htt:aO C.P tt)(hi:Inv C (St.get (u++σ)) a.tmps E)(hw:E.w=w){s d:TypeId}{x:Operand}(ho:o.op= .convert s d x){i j:TI}(hti:tt.get s=some i)(htj:tt.get d=some j)
 {f:Fl} {e:TypeId} {xs:List Int} (he:i.elem=some (e,.byte)) (hu8:C.P.underlying e=some (.int .u8)) (hj:j.isStr=true) (hx:VRc E (aA (St.get (u++σ))) (.h 0) 0 (.sl f .byte xs) (a.eval x)):
 Good C (u++σ) a w o (.v false [.str (xs.map fun n=>UInt8.ofNat n.toNat)]):=by
 have hd:=(htt d j htj).str hj;obtain⟨hs,_⟩:=(htt s i hti).elem e .byte he;obtain⟨ad,cap,vals,hv,h1,h2,h3,h4,h5⟩:=pX (v:=a.eval x) hx (show 0<Ty.byte.sz from Nat.one_pos);have hrl:(xs.map Ty.byte.toD).length=xs.length:=by simp
 rw [hrl] at hv h1 h2;have hvals:vals=xs.map (Value.int .u8):=by
  refine List.ext_getElem? fun k=> ?_;by_cases hk:k<xs.length
  ·obtain⟨u,g1,g2⟩:=h5 k 0 (by rw [hrl];exact hk) (by simp [Ty.toD]);simp only [Ty.sz,Nat.mul_one,Nat.add_zero] at g1;rw [g1];simp [Ty.toD] at g2;cases g2;simp [hk]
  ·rw [ZP (by rw [h2];simp [Ty.sz];omega),ZP (by simp;omega)]
 refine Good.cell hi hw (val:= .string (xs.foldl (fun r n=>r.push (UInt8.ofNat n.toNat)) ByteArray.empty)) ?_ ⟨_,rfl,by rw [uK];simp⟩;rw [lE ho,hv];simp only [convert,Sem.run_bind,run_underlying hs,run_underlying hd,Result.andThen_ok,run_underlying hu8];rcases h3 with h3|⟨b,off,rfl,h3⟩
 ·have:xs=[]:=by simpa using h3
  subst this;cases ad with
  |none=>rfl
  |some ad=>
   have hl:(loadCells ad 0).run C.P w= .ok (([]:List Int).map (Value.int .u8)).toArray w:=by
    have:=run_loadCells_list (P:=C.P) w ad [] (fun j v hv=>by simp at hv);exact this
   have:=run_bytesToString (P:=C.P) w ad 0 cap [] hl;rw [show([]:List Int).length=0 from rfl,this]
   rfl
 ·have hl:(loadCells ⟨b,off,none⟩ xs.length).run C.P w= .ok (xs.map (Value.int .u8)).toArray w:=by
   have:=run_loadCells_list (P:=C.P) w ⟨b,off,none⟩ vals (fun j v hv=>by rw [dF,<-hw];exact h3 j v hv);rw [h2,hvals] at this;simpa [Ty.sz] using this
  rw [run_bytesToString (P:=C.P) w _ _ cap xs hl]
  rfl
theorem tF{w:World}(htt:aO C.P tt)(hi:Inv C (St.get (u++σ)) a.tmps E)(hw:E.w=w){s d:TypeId}{x:Operand}(ho:o.op= .convert s d x){i j:TI}(hti:tt.get s=some i)(htj:tt.get d=some j)
 {e:TypeId} {t:ByteArray} (he:j.elem=some (e,.byte)) (hu8:C.P.underlying e=some (.int .u8)) (hs:i.isStr=true) (hx:a.eval x= .string t):
 Good C (u++σ) a w o (.v false [.sl .own .byte (t.data.toList.map fun c=>(c.toNat:Int))]):=by
 have hs:=(htt s i hti).str hs;obtain⟨hd,_⟩:=(htt d j htj).elem e .byte he
 let cap:=grownCap w t.size 0 e
 have hcap:t.size<=cap:=grownCap_ge _ _ _ _
 let elems:Array Value:=t.data.map fun b=> .int .u8 b.toNat
 let cells:Array Value:=elems++Array.replicate (cap - t.size) (.int .u8 0)
 have hes:elems.size=t.size:=by simp only [elems,Array.size_map];rfl
 have hcs:cells.size=cap:=by simp only [cells,Array.size_append,hes,Array.size_replicate];omega
 have hnf:(Question.appendCap t.size 0 e).forced=false:=rfl
 let w' :World:=((w.drew.alloc (.cells cells e)).freeze ⟨w.heap.size,cells.size,none⟩ 1)
 have hg:Grown w w' cells e (cells.size,cells.size+1):=by
  have hh:(w.drew.alloc (.cells cells e)).heap[w.heap.size]? =some (.cells cells e (0,0)):=gS w.drew _;refine⟨?_,fun k hk=> ?_,?_,rfl,rfl,rfl⟩
  ·show(Array.modify _ _ _).size=_;rw [Array.size_modify];exact gG w.drew _
  ·show(Array.modify _ _ _)[k]? =_;rw [Yo,Zf (Ne.symm hk)];exact d6 (w:=w.drew) hk
  ·show(Array.modify _ _ _)[w.heap.size]? =_;rw [Yo,Zw rfl,hh]
   rfl
 have hv:VRs E (aA (St.get (u++σ))) (.h 1) 0 ((t.data.toList.map fun c=>(c.toNat:Int)).map (Ty.byte.enc .own)).flatten elems.toList:=by
  have e1:∀(l:List UInt8) (c:Nat),VRs E (aA (St.get (u++σ))) (.h 1) c ((l.map fun c=>(c.toNat:Int)).map (Ty.byte.enc .own)).flatten (l.map fun b=>Value.int .u8 b.toNat):=by
   intro l
   induction l with
   |nil=>intro c;trivial
   |cons b l ih=>intro c;exact⟨rfl,ih _⟩
  have:=e1 t.data.toList 0;simpa [elems] using this
 have hr:=mJ .byte (t.data.toList.map fun c=>(c.toNat:Int));have hlen:(t.data.toList.map fun c=>(c.toNat:Int)).length=t.size:=by rw [Zr,dG]
 rw [hlen] at hr
 have hand:=l8 (a:=a) (cap:=cap) hi hw hr hg hv (fun k hk=>by
  have hk:k<elems.size:=by simpa using hk
  rw [XN hk,ZY]) hcap (by rw [hcs];simp [Ty.sz]) (fun o h _=>by
   have h:cells.size<=o:=h;rw [hcs] at h;simpa [Ty.sz] using h)
 simp only [ZB] at hand;refine⟨_,_,?_,hand⟩;rw [lE ho,hx];have hh:(w.drew.alloc (.cells cells e)).shape? w.heap.size=some (e,cells.size):=by
  have:(w.drew.alloc (.cells cells e)).heap[w.heap.size]? =some (.cells cells e (0,0)):=gS w.drew _;unfold World.shape?;rw [this]
 have run:(Conv.stringToBytes e t).run C.P w= .ok (.slice (some ⟨w.heap.size,0,none⟩) t.size cap) w' :=by
  simp only [Conv.stringToBytes,Sem.run_bind,run_choose_drew,hnf,Yg,if_false,Result.andThen_ok,newRow,run_newObj_alloc,Sem.run_pure,markStringish,run_shape];show((match(w.drew.alloc (.cells cells e)).shape? w.heap.size with |some (_,n)=>freeze { block:=w.heap.size,off:=n } 1|_=>pure ()).run C.P (w.drew.alloc (.cells cells e))).andThen _=_;rw [hh]
  rfl
 simp only [convert,Sem.run_bind,run_underlying hs,run_underlying hd,Result.andThen_ok,run_underlying hu8,run]
 rfl
end
end Go.Ab
end
section
namespace Go.Ab
variable [Inhabited Lb]
def gI(n:Nat)(c:Nat):List (Nat×Nat)->Option (List (Nat×Nat))
 |(i,j)::p=>if c=0 then some ((n+i,j)::p) else none
 | []=>none
theorem nC(n:Nat):SrcOk n (gI n) where
 inj:=fun c p c' p' q h1 h2=>by
  match p,p',h1,h2 with
  | [],_,h1,_=>cases h1
  |_::_,[],_,h2=>cases h2
  |(i,j)::r,(i',j')::r',h1,h2=>
   simp only [gI] at h1 h2;split at h1
   ·split at h2
    ·rw [<-h2] at h1;simp only [ZL,Y6,YT] at h1;obtain⟨⟨e1,e2⟩,e3⟩:=h1;have:i=i' :=by omega
     subst this e2 e3;exact⟨by omega,rfl⟩
    ·cases h2
   ·cases h1
 new:=fun c p q h=>by
  match p,h with
  | [],h=>cases h
  |(i,j)::r,h=>
   simp only [gI] at h;split at h
   ·cases h;exact⟨_,_,rfl,Yi _ _⟩
   ·cases h
theorem kS{E E' :Env}{bxs:Nat->Prop}{T:Ty}{xs ys:List T.den}{f g rf:Fl}{nest kp:Bool}{n:Nat}(hn:xs.length=n)
 (hmode:(T.flat=true/\rf= .own)\/(nest=true/\f= .own/\g= .own/\rf= .own)\/(nest=false/\(f= .own\/f= .tip)/\(g= .own\/g= .tip\/g= .ro)/\rf= .tip))
 (hE:∀b,E.ow b≠some (.arr (.h 0) 0 [])->(0<E.hw b\/E.ow b≠none)->E'.ow b=(E.ow b).bind (cH kp nest n (gI n))/\E'.hw b=E.hw b/\E'.w.heap[b]? =E.w.heap[b]?)
 {bb cap:Nat} {cs:Array Value} {ty:TypeId} {fr:Nat×Nat} (h1:E'.ow bb=some (.arr (.h 0) 0 [])) (h2:E'.hw bb=(n+ys.length)*T.sz) (h3:E'.w.heap[bb]? =some (.cells cs ty fr))
 (h4:n+ys.length<=cap) (h5:cap*T.sz=cs.size) (h6:∀o,fr.1<=o->o<fr.2->cap*T.sz<=o)
 (hold:∀i j (hi:i<xs.length) (hj:j<(T.toD xs[i]).length),∃u,cs[i*T.sz+j]? =some u/\RdP E.w (fun p=>okF E (.h 0) 0 f ((i,j)::p)) (fun p=>qF E (.h 0) 0 f ((i,j)::p)) u (T.toD xs[i])[j])
 (hnew:∀i j (hi:i<ys.length) (hj:j<(T.toD ys[i]).length),∃u,cs[(n+i)*T.sz+j]? =some u/\RdP E.w (fun p=>okF E (.h 1) 0 g ((i,j)::p)) (fun p=>qF E (.h 1) 0 g ((i,j)::p)) u (T.toD ys[i])[j]):
 VRc E' bxs (.h 0) 0 (.sl rf T (xs++ys)) (.slice (some ⟨bb,0,none⟩) (n+ys.length) cap):=by
 have hTip:Tip E' (.arr (.h 0) 0 []) (.slice (some ⟨bb,0,none⟩) (n+ys.length) cap) T.sz:=⟨h1,h2,h4,cs,ty,fr.1,fr.2,h3,h5,h6⟩;have hlen:∀r∈(xs++ys).map T.toD,r.length=T.sz:=by
  intro r hr;obtain⟨x,_,rfl⟩:=Zk.1 hr;exact Ty.toD_length T x
 have hrf:rf= .own\/rf= .tip:=by
  rcases hmode with ⟨_,h⟩|⟨_,_,_,h⟩|⟨_,_,_,h⟩ <;>simp [h]
 have kold:∀i j u d,i<n->RdP E.w (fun p=>okF E (.h 0) 0 f ((i,j)::p)) (fun p=>qF E (.h 0) 0 f ((i,j)::p)) u d->(T.flat=true->d.flat=true)->
  RdP E'.w (fun p=>okF E' (.h 0) 0 rf ((i,j)::p)) (fun p=>qF E' (.h 0) 0 rf ((i,j)::p)) u d:=by
  intro i j u d hi h hfl;rcases hmode with ⟨hf,_⟩|⟨rfl,rfl,rfl,rfl⟩|⟨rfl,hf,hg,rfl⟩
  ·exact h.flat (hfl hf)
  ·refine eW (p0:=[(i,j)]) (fun p b hb=> ?_) h;obtain⟨a1,a2,a3⟩:=hE b (by rw [hb];simp) (.inr (by rw [hb];simp));refine⟨?_,a2,a3⟩;rw [a1,hb];simp [cH,hi]
  ·refine mH (p0:=[(i,j)]) (by rcases hf with rfl|rfl <;>simp) (fun b o ho hb=> ?_) h;obtain⟨a1,a2,a3⟩:=hE b (by rcases hb with hb|⟨p,hb⟩ <;>rw [hb] <;>simp) (.inl (by omega));refine⟨aT a3 o,by rw [a2];exact ho,?_⟩;rw [a1];rcases hb with hb|⟨p,hb⟩ <;>rw [hb] <;>simp [cH]
 have knew:∀i j u d,RdP E.w (fun p=>okF E (.h 1) 0 g ((i,j)::p)) (fun p=>qF E (.h 1) 0 g ((i,j)::p)) u d->(T.flat=true->d.flat=true)->
  RdP E'.w (fun p=>okF E' (.h 0) 0 rf ((n+i,j)::p)) (fun p=>qF E' (.h 0) 0 rf ((n+i,j)::p)) u d:=by
  intro i j u d h hfl;rcases hmode with ⟨hf,_⟩|⟨rfl,rfl,rfl,rfl⟩|⟨rfl,hf,hg,rfl⟩
  ·exact h.flat (hfl hf)
  ·refine eW (p0:=[(i,j)]) (g:=fun p=>(n+i,j)::p) (fun p b hb=> ?_) h;obtain⟨a1,a2,a3⟩:=hE b (by rw [hb];simp) (.inr (by rw [hb];simp));refine⟨?_,a2,a3⟩;rw [a1,hb];simp [cH,gI]
  ·refine mH (p0:=[(i,j)]) hg (fun b o ho hb=> ?_) h;obtain⟨a1,a2,a3⟩:=hE b (by rcases hb with hb|⟨p,hb⟩ <;>rw [hb] <;>simp) (.inl (by omega));refine⟨aT a3 o,by rw [a2];exact ho,?_⟩;rw [a1];rcases hb with hb|⟨p,hb⟩ <;>rw [hb] <;>simp [cH]
 show RdP E'.w _ _ _ (.sl T.sz ((xs++ys).map T.toD));refine eF h3 (by simp [hn]) h4 hlen ?_ (fun o ho=> ?_) (fun i j hi hj=> ?_)
 ·rcases hrf with rfl|rfl
  ·exact hTip
  ·exact fun _=>hTip
 ·have hh:o<E'.hw bb:=by rw [h2];exact ho
  rcases hrf with rfl|rfl
  ·exact⟨hh,h1⟩
  ·exact⟨hh,fun _=>h1,fun h=>absurd rfl h⟩
 ·have hi' :i<(xs++ys).length:=by simpa using hi
  have fl:∀(x:T.den) (j:Nat) (hj:j<(T.toD x).length),T.flat=true->((T.toD x)[j]).flat=true:=fun x j hj hf=>Ty.flat_toD hf x _ (Z4 hj);by_cases hx:i<xs.length
  ·have e:((xs++ys).map T.toD)[i]=T.toD xs[i]:=by simp [hx]
   have hj' :j<(T.toD xs[i]).length:=by rw [<-e];exact hj
   obtain⟨u,u1,u2⟩:=hold i j hx hj';refine⟨u,u1,?_⟩;have:=kold i j u _ (by omega) u2 (fl _ _ hj');simp only [e];exact this
  ·have hy:i - n<ys.length:=by simp at hi';omega
   have e:((xs++ys).map T.toD)[i]=T.toD ys[i - n]:=by
    subst hn;rw [Z7];congr 1;exact XL (XX hx)
   have hj' :j<(T.toD ys[i - n]).length:=by rw [<-e];exact hj
   obtain⟨u,u1,u2⟩:=hnew (i - n) j hy hj';have e2:n+(i - n)=i:=by omega
   rw [e2] at u1;refine⟨u,u1,?_⟩;have:=knew (i - n) j u _ u2 (fl _ _ hj');rw [e2] at this;simp only [e];exact this
structure SrcRun (P:Program) (w:World) (sz m:Nat) (news:List Value) (x:Value):Prop where
 len:∀w1:World,(Builtin.lenOf x).run P w1= .ok m w1
 first:∀w1:World,w1.heap=w.heap->(Builtin.firstCells sz m x).run P w1= .ok news.toArray w1
 one:∀v∈news,v.oneCell' =true
 length:news.length=m*sz
theorem RdP.top{w:World}{ok:List (Nat×Nat)->Nat->Nat->Prop}{q:List (Nat×Nat)->Value->Nat->Prop}{v:Value}{sz:Nat}{rows:List (List D)}(h:RdP w ok q v (.sl sz rows)):q [] v sz:=by
 cases h with
 |nil a cap sz h=>exact h
 |sl b off n cap sz rows u hn hcap hr h=>exact h
theorem RdP.one{w:World}{ok:List (Nat×Nat)->Nat->Nat->Prop}{q:List (Nat×Nat)->Value->Nat->Prop}{v:Value}{d:D}(h:RdP w ok q v d):v.oneCell' =true:=by
 cases h <;>rfl
theorem iH{P:Program}{w:World}{ok:List (Nat×Nat)->Nat->Nat->Prop}{q:List (Nat×Nat)->Value->Nat->Prop}{v:Value}{sz:Nat}{rows:List (List D)}(h:RdP w ok q v (.sl sz rows))(hz:0<sz):
 ∃news,SrcRun P w sz rows.length news v/\(∀b off n c,v= .slice (some ⟨b,off,none⟩) n c->∀j u,news[j]? =some u->w.cell? ⟨b,off+j,none⟩=some u)/\∀i j (hi:i<rows.length) (hj:j<rows[i].length),∃u,news[i*sz+j]? =some u/\RdP w (fun p=>ok ((i,j)::p)) (fun p=>q ((i,j)::p)) u (rows[i][j]):=by
 obtain⟨ad,cap,vals,rfl,h1,h2,h3,h4,h5⟩:=pX h hz;refine⟨vals,⟨fun w1=>rfl,fun w1 hw=> ?_,fun v hv=> ?_,h2⟩,fun b off n c hv j u hu=> ?_,h5⟩
 ·rcases h3 with h3|⟨b,off,rfl,h3⟩
  ·subst h3;have:vals=[]:=by simpa using h2
   subst this;cases ad with
   |none=>rfl
   |some ad=>
    have:=run_loadCells_list (P:=P) w1 ad [] (fun j v hv=>by simp at hv);simpa [Builtin.firstCells] using this
  ·have:=run_loadCells_list (P:=P) w1 ⟨b,off,none⟩ vals (fun j v hv=>by rw [dF,<-h3 j v hv];unfold World.cell?;rw [hw]);rw [h2] at this;simpa [Builtin.firstCells] using this
 ·obtain⟨k,hk,rfl⟩:=List.mem_iff_getElem.1 hv;have hlt:k<rows.length*sz:=by rw [<-h2];exact hk
  have h6:k / sz<rows.length:=Nat.div_lt_of_lt_mul (by rw [X7];exact hlt);have h7:k % sz<rows[k / sz].length:=by rw [h4 _ (Z4 h6)];exact Xk _ hz
  obtain⟨u,u1,u2⟩:=h5 _ _ h6 h7;rw [X7,Xi,Zx hk] at u1;cases u1;exact u2.one
 ·cases hv;rcases h3 with h3|⟨b',off',e,h3⟩
  ·subst h3;have:vals=[]:=by simpa using h2
   subst this;simp at hu
  ·cases e;exact h3 j u hu
theorem yF{P:Program}{w:World}(t:ByteArray):SrcRun P w 1 t.size (t.data.toList.map fun b=>Value.int .u8 b.toNat) (.string t) where
 len:=fun _=>rfl
 first:=fun w1 _=>by
  have:(t.extract 0 t.size).data=t.data:=by simp
  simp only [Builtin.firstCells,this,Sem.run_pure]
  congr 1
  apply Y3;simp
 one:=fun v hv=>by obtain⟨b,_,rfl⟩:=Zk.1 hv;rfl
 length:=by rw [Zr,dG,Nat.mul_one]
section
variable {P:Program} {w:World} {t0 t1 ty e:TypeId} {te:TypeInfo} {z:Value} {x:Value} {n m cap:Nat} {news:List Value}
theorem qE(ht:P.underlying t0=some (.slice e))(hd:(∃e',P.underlying t1=some (.slice e'))\/P.underlying t1=some .string)(hte:P.info? e=some te)
 (hs:SrcRun P w te.size 0 news x):(Builtin.append_ #[t0,t1] ty #[.slice none 0 0,x]).run P w= .ok (.slice none 0 0) w:=by
 have h1:=hs.len w;have h2:=hs.first w rfl;rcases hd with ⟨e',ht1⟩|ht1 <;>simp [Builtin.append_,run_underlying ht,run_underlying ht1,sizeOf,typeInfo,hte,h1,h2]
theorem qG(ht:P.underlying t0=some (.slice e))(hd:(∃e',P.underlying t1=some (.slice e'))\/P.underlying t1=some .string)(hte:P.info? e=some te)
 (hs:SrcRun P w te.size m news x) {b:Nat} (hroom:n+m<=cap) (hcell:∀j,j<news.length->(w.cell? ⟨b,n*te.size+j,none⟩).isSome=true)
 (hfro:∀j,j<news.length->w.frozen? ⟨b,n*te.size+j,none⟩=false):
 (Builtin.append_ #[t0,t1] ty #[.slice (some ⟨b,0,none⟩) n cap,x]).run P w= .ok (.slice (some ⟨b,0,none⟩) (n+m) cap) (w.setCells b (n*te.size) news):=by
 have h1:=hs.len w;have h2:=hs.first w rfl;have hst:=run_storeCells_cells (P:=P) b (n*te.size) news 0 w (by simpa using hcell) (by simpa using hfro) hs.one;rw [Nat.add_zero] at hst;have ha:(⟨b,0,none⟩:Addr).add (n*te.size)=⟨b,n*te.size,none⟩:=by rw [dF,Zj]
 rcases hd with ⟨e',ht1⟩|ht1 <;>simp [Builtin.append_,run_underlying ht,run_underlying ht1,sizeOf,typeInfo,hte,h1,h2,hroom,ha,hst]
theorem qD(ht:P.underlying t0=some (.slice e))(hd:(∃e',P.underlying t1=some (.slice e'))\/P.underlying t1=some .string)(hte:P.info? e=some te)(hz:te.zero=some z)
 (hs:SrcRun P w te.size m news x) {s:Option Addr} {olds:List Value} (ho:SrcRun P w te.size n olds (.slice s n cap)) (hg:cap<n+m) (hL:n+m<=Lim) (hby:te.bytes<=256):
 (Builtin.append_ #[t0,t1] ty #[.slice s n cap,x]).run P w= .ok (.slice (some ⟨w.heap.size,0,none⟩) (n+m) (grownCap w (n+m) cap e))
   (w.drew.alloc (.cells (olds++news++(Builtin.zeroCells z.cells (grownCap w (n+m) cap e - (n+m))).toList).toArray e)):=by
 have h1:=hs.len w;have h2:=hs.first w.drew rfl;have h3:=ho.first w.drew rfl;have hL' :n+m<=274877906944:=hL;have hb:(n+m)*te.bytes<=140737488355328:=by
  have:(n+m)*te.bytes<=274877906944*256:=YH hL' hby;omega
 have hfit:=growslice_fits hg hb;have hn:¬(n+m<=cap):=by omega
 have h63' :¬(9223372036854775807<((n:Int)+(m:Int))):=by omega
 have h48' :¬(281474976710656<Builtin.nextslicecap (n+m) cap*te.bytes):=by omega
 rcases hd with ⟨e',ht1⟩|ht1
 all_goals
  simp [Builtin.append_,run_underlying ht,run_underlying ht1,sizeOf,typeInfo,zeroValue,hte,hz,h1,hn,h63',h48',Question.forced,h2,h3,newRow,grownCap]
  congr 2
  apply Y3;simp [Zc]
end
section
variable {C:Ctx} {σ:St} {a:Act} {E:Env} {u u' u'' :Ups} {tt:TT} {o:Oper} {md:Md} {v:AV} {ob:List Prop} {ty:TypeId}
theorem rZ{w:World}(hi:Inv C (St.get (u++σ)) a.tmps E)(hw:E.w=w){t0 t1 e:TypeId}{te:TypeInfo}{z:Value}{T:Ty}(ht:C.P.underlying t0=some (.slice e))
 (hd:(∃e',C.P.underlying t1=some (.slice e'))\/C.P.underlying t1=some .string) (hte:C.P.info? e=some te) (hsz:te.size=T.sz) (hby:te.bytes<=256) (hz:te.zero=some z)
 (hzc:z.cells.size=T.sz) {xs ys:List T.den} {f g rf:Fl} {nest:Bool} (hf:f= .own\/f= .tip)
 (hmode:(T.flat=true/\rf= .own)\/(nest=true/\f= .own/\g= .own/\rf= .own)\/(nest=false/\(f= .own\/f= .tip)/\(g= .own\/g= .tip\/g= .ro)/\rf= .tip))
 {v0 x:Value} (hv0:VRc E (aA (St.get (u++σ))) (.h 0) 0 (.sl f T xs) v0) {news:List Value} (hs:SrcRun C.P w T.sz ys.length news x)
 (hnew:∀i j (hi:i<ys.length) (hj:j<(T.toD ys[i]).length),∃u,news[i*T.sz+j]? =some u/\RdP E.w (fun p=>okF E (.h 1) 0 g ((i,j)::p)) (fun p=>qF E (.h 1) 0 g ((i,j)::p)) u (T.toD ys[i])[j])
 (hL:xs.length+ys.length<=Lim) (ty:TypeId):
 ∃val w',(Builtin.append_ #[t0,t1] ty #[v0,x]).run C.P w= .ok val w' /\Hand C (u++σ) a.tmps w' 0 (.v false [.sl rf T (xs++ys)]) val:=by
 subst hw;have hp:=Ty.sz_pos T;have hv0:RdP E.w (okF E (.h 0) 0 f) (qF E (.h 0) 0 f) v0 (.sl T.sz (xs.map T.toD)):=hv0;obtain⟨olds,ho,hoc,hok⟩:=iH (P:=C.P) hv0 hp;obtain⟨ad,cap,rfl,hcap⟩:=hv0.shape;rw [Zr] at ho hcap;have hq:Tip E (.arr (.h 0) 0 []) (.slice ad (xs.map T.toD).length cap) T.sz:=by
  have:qF E (.h 0) 0 f [] (.slice ad (xs.map T.toD).length cap) T.sz:=hv0.top;rcases hf with rfl|rfl
  ·exact this
  ·exact this rfl
 rw [Zr] at hq ⊢;have hold:∀i j (hi:i<xs.length) (hj:j<(T.toD xs[i]).length),∃u,olds[i*T.sz+j]? =some u/\RdP E.w (fun p=>okF E (.h 0) 0 f ((i,j)::p)) (fun p=>qF E (.h 0) 0 f ((i,j)::p)) u (T.toD xs[i])[j]:=by
  intro i j hi hj;have:=hok i j (by simpa using hi) (by simpa using hj);simpa using this
 have hsrc:=nC xs.length;have hnl:=hs.length;have hol:=ho.length;have hlt:∀(n i j:Nat),i<n->j<T.sz->i*T.sz+j<n*T.sz:=by
  intro n i j hi hj
  calc i*T.sz+j<i*T.sz+T.sz:=by omega
   _=(i+1)*T.sz:=by rw [ZM,YJ]
   _<=n*T.sz:=ZJ _ hi
 by_cases hroom:xs.length+ys.length<=cap
 ·match ad,hq with
  |none,hq=>
   obtain⟨h0,rfl⟩:xs.length=0/\cap=0:=hq;have hx:xs=[]:=Z0.1 h0;have hy:ys=[]:=Z0.1 (by omega);subst hx hy;refine⟨_,_,qE ht hd hte (by rw [hsz];exact hs),E,rfl,hi,?_,trivial⟩;have hrf:rf= .own\/rf= .tip:=by rcases hmode with ⟨_,h⟩|⟨_,_,_,h⟩|⟨_,_,_,h⟩ <;>simp [h]
   refine RdP.nil none 0 T.sz ?_;rcases hrf with rfl|rfl
   ·exact⟨rfl,rfl⟩
   ·exact fun _=>⟨rfl,rfl⟩
  |some ⟨b,off,sp⟩,hq=>
   match off,sp,hq with
   |_+1,_,hq=>exact hq.elim
   |0,some _,hq=>exact hq.elim
   |0,none,hq=>
    obtain⟨q1,q2,q3,cs,cty,lo,hi',q4,q5,q6⟩:=hq;have hin:∀j,j<news.length->xs.length*T.sz+j<cap*T.sz:=by
     intro j hj;have:(xs.length+ys.length)*T.sz<=cap*T.sz:=ZJ _ hroom;rw [ZM] at this;omega
    have run:=qG (ty:=ty) ht hd hte (by rw [hsz];exact hs) (b:=b) hroom (fun j hj=>by
     have:=hin j hj;rw [hsz];simp [World.cell?,q4];omega) (fun j hj=>by
     have h1:=hin j hj;rw [hsz];simp only [World.frozen?,q4];by_cases hlo:lo<=xs.length*T.sz+j
     ·by_cases hhi:xs.length*T.sz+j<hi'
      ·have:=q6 _ hlo hhi;omega
      ·simp [hhi]
     ·simp [hlo])
    rw [hsz] at run;obtain⟨st,hi2⟩:=uX (vs:=news) (o:=xs.length*T.sz) (m:=(xs.length+ys.length)*T.sz) hi (iR (kp:=true) (nest:=nest) hsrc) jB q1 (.inl rfl) q4 (by omega) (by rw [q2];exact ZJ _ (Yi _ _));obtain⟨cs',c1,c2,c3⟩:=dM b news (xs.length*T.sz) E.w q4;refine⟨_,_,run,_,rfl,hi2,?_,trivial⟩;refine kS (E:=E) (kp:=true) (nest:=nest) rfl hmode (fun b' hb _=> ?_) (by simp [Env.growArr,q1,cH]) (by simp [Env.growArr]) c1 hroom (by rw [c2];exact q5) (fr:=(lo,hi')) q6 (fun i j hi hj=> ?_) (fun i j hi hj=> ?_)
    ·have hne:b' ≠b:=by rintro rfl;exact hb q1
     exact⟨rfl,by simp [Env.growArr,hne],cW b b' hne _ _ _⟩
    ·obtain⟨u1,g1,g2⟩:=hold i j hi hj;refine⟨u1,?_,g2⟩;have hjs:j<T.sz:=by rw [Ty.toD_length] at hj;exact hj
     have hk:=hlt xs.length i j hi hjs;rw [c3,Zf (by omega)];have:=hoc b 0 xs.length cap (by rw [Zr]) _ _ g1;rw [Zj] at this;simpa [World.cell?,q4] using this
    ·obtain⟨u1,g1,g2⟩:=hnew i j hi hj;refine⟨u1,?_,g2⟩;have hk:i*T.sz+j<news.length:=(Zt.1 g1).1;have:=hin _ hk;rw [ZM,Yt,c3,Zw ⟨Yi _ _,by omega,by omega⟩,Yu];exact g1
 ·have hcapge:=grownCap_ge E.w (xs.length+ys.length) cap e;have run:=qD (ty:=ty) ht hd hte hz (by rw [hsz];exact hs) (s:=ad) (n:=xs.length) (cap:=cap) (olds:=olds) (by rw [hsz];simpa using ho) (by omega) hL hby;generalize hgc:grownCap E.w (xs.length+ys.length) cap e=gc at*;have hg:=Grown.drew E.w (olds++news++(Builtin.zeroCells z.cells (gc - (xs.length+ys.length))).toList).toArray e;obtain⟨st,hi2⟩:=lZ hi hg (iR (kp:=false) (nest:=nest) hsrc) jB (kU hsrc) ((xs.length+ys.length)*T.sz);have hn:=hi.new E.w.heap.size (Zi _);refine⟨_,_,run,_,rfl,hi2,?_,trivial⟩;have hcsz:(olds++news++(Builtin.zeroCells z.cells (gc - (xs.length+ys.length))).toList).toArray.size=gc*T.sz:=by
   have e1:∀k,(Builtin.zeroCells z.cells k).toList.length=k*T.sz:=by
    intro k;have:=size_zeroCells z.cells k;rw [hzc] at this;simpa using this
   rw [X2,jA,jA,e1,hol,hnl,<-ZM,<-ZM]
   congr 1;omega
  refine kS (E:=E) (kp:=false) (nest:=nest) rfl hmode (fun b' hb hb2=> ?_) (by simp [Env.newArr]) (by simp [Env.newArr]) hg.new hcapge (hcsz.symm) (fr:=(0,0)) (fun o _ h=>absurd h (YY o)) (fun i j hi hj=> ?_) (fun i j hi hj=> ?_)
  ·have hne:b' ≠E.w.heap.size:=by
    rintro rfl;rcases hb2 with h|h
    ·omega
    ·exact h hn.1
   exact⟨by simp [Env.newArr,hne],by simp [Env.newArr,hne],hg.old b' hne⟩
  ·obtain⟨u1,g1,g2⟩:=hold i j hi hj;refine⟨u1,?_,g2⟩;have hk:i*T.sz+j<olds.length:=(Zt.1 g1).1;rw [YE,Zc,Ze hk];exact g1
  ·obtain⟨u1,g1,g2⟩:=hnew i j hi hj;refine⟨u1,?_,g2⟩;have hk:i*T.sz+j<news.length:=(Zt.1 g1).1;rw [YE,Zc,ZM,Yt,Z3 (by omega),hol,Yu,Ze hk];exact g1
end
end Go.Ab
namespace Go.Ab
variable [Inhabited Lb]
section
variable {C:Ctx} {σ:St} {a:Act} {E:Env} {u u' u'' :Ups} {tt:TT} {o:Oper} {md:Md} {v:AV} {ob:List Prop} {ty:TypeId}
theorem oR{i:TI}(h:i.isSlice=true):∃e T,i.elem=some (e,T):=by
 unfold TI.isSlice at h;split at h
 ·rename_i x e;exact⟨_,_,e⟩
 ·cases h
theorem sA{w:World}(htt:aO C.P tt)(hi:Inv C (St.get (u++σ)) a.tmps E)(hw:E.w=w){c:Call}(ho:o.op= .call c)(hc:c.callee= .builtin .append){x y:Operand}{t0 t1:TypeId}
 (ha:c.args.toList=[x,y]) (hat:c.argTypes.toList=[t0,t1]) {i j:TI} (hti:tt.get t0=some i) (htj:tt.get t1=some j) {md' :Md} (hmd:md' = .take\/md' = .cp) {p q:CV} {u1 u2:Ups} {p0 q0:AV}
 (h1:Mr (opd tt .take t0 x) σ u=some (p0,u1)) (hp:p0= .v false [p]) (h2:Mr (opd tt md' t1 y) σ u1=some (q0,u2)) (hq:q0= .v false [q]) (hfit:gH i j p q=true) {r:CV} {ob:List Prop}
 (hr:kR p q=some (r,ob)) (hob:∀P∈ob,P):Good C (u2++σ) a w o (.v false [r]):=by
 subst hp hq;obtain⟨E1,e1,e2,e3,e4,e5,e6⟩:=d9 hi 0 h1
 obtain⟨E2,f1,f4,f5,f0⟩:∃E2,E2.w=E1.w/\Inv C (St.get (u2++σ)) a.tmps E2/\VRc E2 (aA (St.get (u2++σ))) (.h 1) 0 q (a.eval y)/\
  ((p.owning=true)->(∀k c,¬p.speaks k c)->p.isBor=false->VRc E2 (aA (St.get (u2++σ))) (.h 0) 0 p (a.eval x)):=by
  rcases hmd with rfl|rfl
  ·obtain⟨E2,g1,g2,g3,g4,g5,g6⟩:=d9 e4 1 h2;refine⟨E2,g1,g4,g5.1,fun h0 hs hb=> ?_⟩
   exact VRc.step g3 (fun s hs=>⟨g6 s hs,by rw [g2]⟩) (fun _ hd=>by
    rcases hd with ⟨t',_,hd⟩|hd
    ·cases hd
    ·cases hd) (fun k c h=>absurd h (hs k c)) (fun h=>by rw [hb] at h;cases h) e5.1
  ·obtain⟨rfl,g⟩:=d8 e4 h2;exact⟨E1,rfl,e4,(g (.h 1)).1,fun _ _ _=>e5.1⟩
 have hargs:c.args.map a.eval= #[a.eval x,a.eval y]:=by
  apply Y3;rw [YN,ha];rfl
 have hats:c.argTypes= #[t0,t1]:=Y3 hat;simp only [gH,Zv] at hfit;obtain⟨hf1,hf2⟩:=hfit
 have fin:∀ {T:Ty} {xs ys:List T.den} {f g rf:Fl} {nest:Bool} {news:List Value},i.isOf T=true->(f= .own\/f= .tip)->
  ((T.flat=true/\rf= .own)\/(nest=true/\f= .own/\g= .own/\rf= .own)\/(nest=false/\(f= .own\/f= .tip)/\(g= .own\/g= .tip\/g= .ro)/\rf= .tip))->
  VRc E2 (aA (St.get (u2++σ))) (.h 0) 0 (.sl f T xs) (a.eval x)->SrcRun C.P E2.w T.sz ys.length news (a.eval y)->
  (∀i j (hi:i<ys.length) (hj:j<(T.toD ys[i]).length),∃u,news[i*T.sz+j]? =some u/\RdP E2.w (fun p=>okF E2 (.h 1) 0 g ((i,j)::p)) (fun p=>qF E2 (.h 1) 0 g ((i,j)::p)) u (T.toD ys[i])[j])->
  ((∃e',C.P.underlying t1=some (.slice e'))\/C.P.underlying t1=some .string)->xs.length+ys.length<=Lim->
  Good C (u2++σ) a w o (.v false [.sl rf T (xs++ys)]):=by
  intro T xs ys f g rf nest news hof hf hmode hx hs hn hd hL;obtain⟨e,he⟩:=gT hof;obtain⟨hu,te,zv,k1,k2,k3,k4,k5,k6⟩:=(htt t0 i hti).elem e T he;have hzc:zv.cells.size=T.sz:=by
   have:=kI k6;rw [Ty.enc_length] at this;simpa using this
  obtain⟨val,w',hrun,hand⟩:=rZ f4 rfl hu hd k1 k2 k4 k5 hzc hf hmode hx hs hn hL o.type;refine⟨val,w',?_,hand⟩;rw [nZ ho hc,hargs,hats,<-(show E2.w=w by rw [f1,e1,hw]),hrun]
  rfl
 unfold kR at hr;split at hr
 ·rename_i f T xs g U ys;split at hr
  ·rename_i hUT;subst hUT;split at hr
   ·rename_i hf;have hown:(CV.sl f U xs).owning=true:=by rcases hf with rfl|rfl <;>rfl
    have hx:=f0 hown (by rcases hf with rfl|rfl <;>exact fun _ _ h=>h) (by rcases hf with rfl|rfl <;>rfl);obtain⟨e',T',he'⟩:=oR (i:=j) hf2;obtain⟨hu',_⟩:=(htt t1 j htj).elem e' T' he';obtain⟨news,s1,s2,s3⟩:=iH (P:=C.P) (v:=a.eval y) f5 (Ty.sz_pos U);rw [Zr] at s1;have s4:∀i j (hi:i<ys.length) (hj:j<(U.toD ys[i]).length),∃u,news[i*U.sz+j]? =some u/\RdP E2.w (fun p=>okF E2 (.h 1) 0 g ((i,j)::p)) (fun p=>qF E2 (.h 1) 0 g ((i,j)::p)) u (U.toD ys[i])[j]:=by
     intro i j hi hj;have:=s3 i j (by simpa using hi) (by simpa using hj);simpa using this
    split at hr
    ·rename_i hflat;cases hr;exact fin (nest:=false) hf1 hf (.inl ⟨hflat,rfl⟩) hx s1 s4 (.inl ⟨e',hu'⟩) (hob _ (by simp))
    ·split at hr
     ·rename_i hg;cases hr;by_cases hfg:f= .own/\g= .own
      ·rw [Zw hfg];exact fin (nest:=true) hf1 hf (.inr (.inl ⟨rfl,hfg.1,hfg.2,rfl⟩)) hx s1 s4 (.inl ⟨e',hu'⟩) (hob _ (by simp))
      ·rw [Zf hfg];exact fin (nest:=false) hf1 hf (.inr (.inr ⟨rfl,hf,by rcases hg with h|h|h <;>simp [h],rfl⟩)) hx s1 s4 (.inl ⟨e',hu'⟩) (hob _ (by simp))
     ·cases hr
   ·cases hr
  ·cases hr
 ·rename_i f xs ys;split at hr
  ·rename_i hf;cases hr;have hown:(CV.sl f .byte xs).owning=true:=by rcases hf with rfl|rfl <;>rfl
   have hx:=f0 hown (by rcases hf with rfl|rfl <;>exact fun _ _ h=>h) (by rcases hf with rfl|rfl <;>rfl);obtain⟨t,hy,rfl⟩:=f5;rw [hy] at fin
   have hl:(t.data.toList.map fun c=>(c.toNat:Int)).length=t.size:=by rw [Zr,dG]
   refine fin (T:= .byte) (g:= .ro) (nest:=false) hf1 hf (.inl ⟨rfl,rfl⟩) hx (by rw [hl];exact yF t) (fun i j hi hj=> ?_) (.inr ((htt t1 j htj).str hf2)) (by rw [hl,<-dG];exact hob _ (by simp));have hj0:j=0:=by simp [Ty.toD] at hj;exact hj
   subst hj0;refine⟨_,by simp only [Ty.sz,Nat.mul_one,Nat.add_zero];rw [Zn,Zx (by rw [dG,<-hl];exact hi)];rfl,?_⟩;simp only [Ty.toD,Z7,List.getElem_cons_zero];exact .int .u8 _
  ·cases hr
 ·cases hr
end
end Go.Ab
end
section
namespace Go.Ab
variable [Inhabited Lb]
def fY:List (Nat×Nat)->List (Nat×Nat)->Option (List (Nat×Nat))
 | [],q=>some q
 |x::p,y::q=>if x=y then fY p q else none
 |_::_,[]=>none
theorem fZ:∀ {p q r:List (Nat×Nat)},fY p q=some r↔q=p++r
 | [],q,r=>by simp [fY]
 |x::p,[],r=>by simp [fY]
 |x::p,y::q,r=>by
  simp only [fY,jO,Y6];split
  ·rename_i h;subst h;rw [fZ];simp
  ·rename_i h;simp [Ne.symm h]
def bW(p:List (Nat×Nat))(i off m:Nat)(q:List (Nat×Nat)):Bool:=
 match fY p q with
 |some (x::_)=>decide (x.1=i/\off<=x.2/\x.2<off+m)
 |_=>false
def dC(k c:Nat)(p:List (Nat×Nat))(i off m:Nat):Own->Option Own
 | .arr (.k k') c' q=>if k' =k/\c' =c/\bW p i off m q=true then none else some (.arr (.k k') c' q)
 | .arr (.h j) c' q=>if j=0 then(if c' <m then some (.arr (.k k) c (p++(i,off+c')::q)) else none) else some (.arr (.h j) c' q)
 | .box s=>some (.box s)
def dkM(k c:Nat):Pl->Nat->Prop:=fun pl c' =>(pl= .k k/\c' =c)\/pl= .h 0
theorem lL{p:List (Nat×Nat)}{i off m c' :Nat}{q:List (Nat×Nat)}(h:c' <m):bW p i off m (p++(i,off+c')::q)=true:=by
 unfold bW;rw [fZ.2 rfl];simp [h]
theorem lW{k c:Nat}{p:List (Nat×Nat)}{i off m:Nat}{l1 l:Own}(h:dC k c p i off m l1=some l):
 (∃k' c' q,l1= .arr (.k k') c' q/\¬(k' =k/\c' =c/\bW p i off m q=true)/\l=l1)\/(∃c' q,l1= .arr (.h 0) c' q/\c' <m/\l= .arr (.k k) c (p++(i,off+c')::q))\/
   (∃j c' q,l1= .arr (.h j) c' q/\l=l1)\/(∃s,l1= .box s/\l=l1):=by
 unfold dC at h;split at h
 ·split at h
  ·cases h
  ·rename_i hn;cases h;exact .inl ⟨_,_,_,rfl,hn,rfl⟩
 ·split at h
  ·rename_i e;split at h
   ·rename_i hlt;cases h;exact .inr (.inl ⟨_,_,by rw [e],hlt,rfl⟩)
   ·cases h
  ·cases h;exact .inr (.inr (.inl ⟨_,_,_,rfl,rfl⟩))
 ·cases h;exact .inr (.inr (.inr ⟨_,rfl,rfl⟩))
theorem wC(k c:Nat)(p:List (Nat×Nat))(i off m:Nat):RhoOk (dC k c p i off m) (dkM k c) where
 box:=fun _=>rfl
 id:=fun pl c' q h=>by
  unfold dkM at h;cases pl with
  |k n=>
   have:¬(n=k/\c' =c/\bW p i off m q=true):=fun e=>h (.inl ⟨by rw [e.1],e.2.1⟩);simp only [dC,Zf this]
  |h n=>have:n≠0:=fun e=>h (.inr (by rw [e]));simp [dC,this]
 inj:=fun l1 l2 l h1 h2=>by
  rcases lW h1 with ⟨k1,c1,q1,rfl,n1,rfl⟩|⟨c1,q1,rfl,n1,rfl⟩|⟨j1,c1,q1,rfl,rfl⟩|⟨s1,rfl,rfl⟩ <;>
   rcases lW h2 with ⟨k2,c2,q2,rfl,n2,e⟩|⟨c2,q2,rfl,n2,e⟩|⟨j2,c2,q2,rfl,e⟩|⟨s2,rfl,e⟩
  ·exact e
  ·injection e with a1 a2 a3;injection a1 with a1;exact absurd ⟨a1,a2,by rw [a3];exact lL n2⟩ n1
  ·cases e
  ·cases e
  ·injection e with a1 a2 a3;injection a1 with a1;exact absurd ⟨a1.symm,a2.symm,by rw [<-a3];exact lL n1⟩ n2
  ·simp only [Own.arr.injEq,YR,Y6,YT,true_and] at e;obtain⟨h3,h4⟩:=e;have:c1=c2:=by omega
   subst this h4
   rfl
  ·cases e
  ·cases e
  ·cases e
  ·cases e
  ·exact e
  ·cases e
  ·cases e
  ·cases e
  ·cases e
  ·exact e
 arr:=fun k c p s h=>by
  rcases lW h with ⟨k1,c1,q1,e1,n1,e⟩|⟨c1,q1,e1,n1,e⟩|⟨j1,c1,q1,e1,e⟩|⟨s1,e1,e⟩
  ·rw [e1] at e;cases e
  ·cases e
  ·rw [e1] at e;cases e
  ·cases e1
structure MutSet (E E' :Env) (k c:Nat) (P:List (Nat×Nat)) (b i off:Nat) (T:Ty) (vs:List CV) (vals:List Value):Prop where
 hb:E.ow b=some (.arr (.k k) c P)
 inj:∀b b' l,E.ow b=some l->E.ow b' =some l->b=b'
 owb:E'.ow b=some (.arr (.k k) c P)
 hwb:E'.hw b=E.hw b
 moves:∀ {l:List (Nat×Nat)},l≠P->bW P i off vs.length l=false->fA E E' (.arr (.k k) c l) (.arr (.k k) c l)
 cells:∃(cs cs' :Array Value) (ty:TypeId) (fr:Nat×Nat),E.w.heap[b]? =some (.cells cs ty fr)/\E'.w.heap[b]? =some (.cells cs' ty fr)/\cs'.size=cs.size/\
  ∀o,cs'[o]? =if i*T.sz+off<=o/\o<i*T.sz+off+vals.length/\o<cs.size then vals[o - (i*T.sz+off)]? else cs[o]?
 len:vs.length=vals.length
 fresh:∀(j:Nat) (y:CV) (v:Value),vs[j]? =some y->vals[j]? =some v->y.fits true=true->
  RdP E'.w (fun q=>okF E' (.k k) c .own (P++(i,off+j)::q)) (fun q=>qF E' (.k k) c .own (P++(i,off+j)::q)) v y.toD
 hi:(i+1)*T.sz<=E.hw b
section
variable {E E' :Env} {bxs:Nat->Prop} {k c:Nat} {P:List (Nat×Nat)} {b i off:Nat} {T:Ty} {vs:List CV} {vals:List Value}
theorem uZ{P:List (Nat×Nat)}{i off m:Nat}:bW P i off m P=false:=by
 unfold bW;rw [(fZ (p:=P) (q:=P) (r:=[])).2 (by simp)]
theorem wT{p0 p:List (Nat×Nat)}{x y:Nat×Nat}(hxy:x≠y)(r:List (Nat×Nat))(i off m:Nat):p0++x::r≠p0++y::p/\bW (p0++y::p) i off m (p0++x::r)=false:=by
 refine⟨fun h=> ?_,?_⟩
 ·rw [YR] at h;injection h with h _;exact hxy h
 ·unfold bW;split
  ·rename_i z t hz;rw [fZ,Zc,YR] at hz;injection hz with h _;exact absurd h hxy
  ·rfl
theorem u9{P:List (Nat×Nat)}{x:Nat×Nat}{r:List (Nat×Nat)}{i off m:Nat}(h:¬(x.1=i/\off<=x.2/\x.2<off+m)):P++x::r≠P/\bW P i off m (P++x::r)=false:=by
 refine⟨fun e=> ?_,?_⟩
 ·have:=Zd List.length e;simp at this
 ·unfold bW;rw [fZ.2 rfl];simp only [decide_eq_false_iff_not];exact h
theorem MutSet.of(hb:E.ow b=some (.arr (.k k) c P))(inj:∀b b' l,E.ow b=some l->E.ow b' =some l->b=b')(ow:∀b',E'.ow b' =(E.ow b').bind (dC k c P i off vs.length))(hw:∀b',E'.hw b' =E.hw b')
 (same:∀b',b' ≠b->E'.w.heap[b']? =E.w.heap[b']?)
 (cells:∃(cs cs' :Array Value) (ty:TypeId) (fr:Nat×Nat),E.w.heap[b]? =some (.cells cs ty fr)/\E'.w.heap[b]? =some (.cells cs' ty fr)/\cs'.size=cs.size/\
   ∀o,cs'[o]? =if i*T.sz+off<=o/\o<i*T.sz+off+vals.length/\o<cs.size then vals[o - (i*T.sz+off)]? else cs[o]?)
 (hv:VRs E bxs (.h 0) 0 vs vals) (hi:(i+1)*T.sz<=E.hw b):MutSet E E' k c P b i off T vs vals where
 hb:=hb
 inj:=inj
 owb:=by rw [ow,hb];simp [dC,uZ]
 hwb:=hw b
 cells:=cells
 len:=aS hv
 hi:=hi
 moves:=fun {l} hl hh b' hb' =>by
  have hne:b' ≠b:=by
   rintro rfl;rw [hb] at hb';simp only [ZL,Own.arr.injEq,true_and] at hb';exact hl hb'.symm
  refine⟨?_,hw b',same b' hne⟩;rw [ow,hb'];simp [dC,hh]
 fresh:=fun j y v hy hv' hf=>by
  have hv:=aZ hv hy hv';rw [Zj] at hv;have hj:j<vs.length:=(Zt.1 hy).1;cases y with
  |int k n=>obtain rfl:v=_:=hv;exact .int k n
  |bool b=>obtain rfl:v=_:=hv;exact .bool b
  |str t=>obtain⟨s,rfl,rfl⟩:=hv;exact .str s
  |sl g U xs=>
   cases g <;>first |(simp [CV.fits] at hf;done) |skip
   refine eW (p0:=[]) (g:=fun q=>P++(i,off+j)::q) (fun q b' hb' => ?_) hv;have hne:b' ≠b:=by
    rintro rfl;rw [hb] at hb';simp at hb'
   refine⟨?_,hw b',same b' hne⟩;rw [ow,hb'];simp [dC,hj]
  |_=>simp [CV.fits] at hf
theorem wJ(M:MutSet E E' k c P b i off T vs vals):∀(p p0:List (Nat×Nat)) (x x' :CV) (v:Value),P=p0++p->cV x p (eG T i off vs)=some x' ->
 RdP E.w (fun q=>okF E (.k k) c .own (p0++q)) (fun q=>qF E (.k k) c .own (p0++q)) v x.toD->
 (∃fl U xs xs',x= .sl fl U xs/\x' = .sl fl U xs' /\xs'.length=xs.length)/\
   RdP E'.w (fun q=>okF E' (.k k) c .own (p0++q)) (fun q=>qF E' (.k k) c .own (p0++q)) v x'.toD:=by
 intro p
 induction p with
 |nil=>
  intro p0 x x' v hP hn hrd;rw [Zb] at hP;subst hP;rw [cV] at hn;unfold eG at hn;split at hn
  ·rename_i fl U xs;split at hn
   ·rename_i hU;subst hU;split at hn
    ·rename_i row hfl hset;split at hn
     ·rename_i r hdec;cases hn;refine⟨⟨fl,U,xs,xs.set i r,rfl,rfl,by simp⟩,?_⟩;have hsz:=Ty.sz_pos U;obtain⟨cs,cs',cty,fr,c1,c2,c3,c4⟩:=M.cells;have hvl:=M.len;have htop:∀v,Tip E (.arr (.k k) c P) v U.sz->Tip E' (.arr (.k k) c P) v U.sz:=by
       intro v ht;unfold Tip at ht ⊢;split at ht
       ·obtain⟨h1,h2,h3,cs0,ty0,lo,hi,h4,h5⟩:=ht;have hbb:=M.inj _ _ _ h1 M.hb;subst hbb;rw [c1] at h4;cases h4;exact⟨M.owb,M.hwb.trans h2,h3,cs',cty,lo,hi,c2,by rw [c3];exact h5⟩
       ·exact ht
       ·exact ht.elim
      by_cases hxs:xs=[]
      ·subst hxs;have hq:=hrd.top;simp only [Zb] at hq;obtain⟨ad,cap,rfl,hcap⟩:=RdP.shape hrd;have ht:=htop _ hq;refine RdP.nil ad cap U.sz ?_;simp only [Zb];exact ht
      ·have hne:xs.map U.toD≠ []:=by simpa using hxs
       obtain⟨b',o',cap,rfl,hcap,hlen,hq,u,hc,hk⟩:=RdP.cells hrd hne;simp only [Zb] at hq hc;have hq:Tip E (.arr (.k k) c P) (.slice (some ⟨b',o',none⟩) (xs.map U.toD).length cap) U.sz:=hq;have ho' :o' =0:=by
        match o',hq with
        |0,_=>rfl
        |_+1,hq=>exact hq.elim
       subst ho';have hq2:=hq;obtain⟨q1,q2,q3,_⟩:=hq2;have hbb:=M.inj _ _ _ q1 M.hb;subst hbb;have hix:i<xs.length:=by
        have h1:=M.hi;rw [q2,Zr] at h1;have:=Nat.le_of_mul_le_mul_right h1 hsz;omega
       have hsl:=fV hset;rw [Ty.enc_length] at hsl;have htd:=Ty.dec_toD U row r hdec;show RdP E'.w _ _ _ (.sl U.sz ((xs.set i r).map U.toD));have hlen' :∀z∈(xs.set i r).map U.toD,z.length=U.sz:=by
        intro z hz;obtain⟨y,_,rfl⟩:=Zk.1 hz;exact Ty.toD_length U y
       have hqt:=htop _ hq;rw [Zr] at hqt hcap;rw [Zr];refine eF c2 (by simp) hcap hlen' (by simp only [Zb];exact hqt) (fun o ho=> ?_) (fun i' j hi' hj=> ?_)
       ·simp only [Zb];refine⟨?_,hqt.1⟩;rw [hqt.2.1];exact ho
       ·have hi2:i' <xs.length:=by simpa using hi'
        have e1:((xs.set i r).map U.toD)[i']=U.toD ((xs.set i r)[i']'(by simpa using hi2)):=by rw [Z7]
        have hjs:j<U.sz:=by rw [<-hlen' _ (Z4 hi')];exact hj
        have hidx:(i*U.sz+off<=i' *U.sz+j/\i' *U.sz+j<i*U.sz+off+vals.length)↔(i' =i/\off<=j/\j<off+vs.length):=by
         constructor
         ·rintro ⟨h1,h2⟩;rcases X6 i' i with h|h|h
          ·have:(i' +1)*U.sz<=i*U.sz:=ZJ _ h;rw [ZM] at this;omega
          ·subst h;exact⟨rfl,by omega,by omega⟩
          ·have:(i+1)*U.sz<=i' *U.sz:=ZJ _ h;rw [ZM] at this;omega
         ·rintro ⟨rfl,h1,h2⟩;exact⟨by omega,by omega⟩
        obtain⟨hcell,_⟩:=hc i' j (by simpa using hi2) hjs;rw [Zj] at hcell;have hcs:cs[i' *U.sz+j]? =some (u i' j):=by simpa [World.cell?,c1] using hcell
        have hcl:i' *U.sz+j<cs.size:=(Zg.1 hcs).1;by_cases hit:i' =i/\off<=j/\j<off+vs.length
        ·obtain⟨h1,h2⟩:=hidx.2 hit;have hjv:i' *U.sz+j - (i*U.sz+off)=j - off:=by rw [hit.1];omega
         have hjl:j - off<vals.length:=by omega
         refine⟨vals[j - off],by rw [c4,Zw ⟨h1,h2,hcl⟩,hjv,Zx hjl],?_⟩;have hrow:row[j]? =some (vs[j - off]'(by omega)):=by
          rw [fU hset,Zw hit.2,Zx]
         have hfit:(vs[j - off]'(by omega)).fits true=true:=(pG hfl).2 _ (Z4 _);have ed:((xs.set i r).map U.toD)[i'][j]=(vs[j - off]'(by omega)).toD:=by
          have e2:((xs.set i r).map U.toD)[i']=row.map CV.toD:=by
           rw [e1,<-htd];congr 1;obtain⟨rfl,_⟩:=hit;simp
          have e3:((xs.set i r).map U.toD)[i'][j]? =some ((vs[j - off]'(by omega)).toD):=by rw [e2,Zn,hrow];rfl
          exact(Zt.1 e3).2
         rw [ed];obtain⟨rfl,hj1,hj2⟩:=hit;have:=M.fresh (j - off) _ _ (Zx (by omega:j - off<vs.length)) (Zx hjl) hfit;rw [show off+(j - off)=j by omega] at this;exact this
        ·refine⟨u i' j,by rw [c4,Zf (fun h=>hit (hidx.1 ⟨h.1,h.2.1⟩))];exact hcs,?_⟩;have ed:((xs.set i r).map U.toD)[i'][j]? =((xs.map U.toD)[i']'(by simpa using hi2))[j]? :=by
          rw [e1,Z7];by_cases hii:i' =i
          ·subst hii;have hnr:¬(off<=j/\j<off+vs.length):=fun h=>hit ⟨rfl,h⟩;rw [YF,htd,Zn,fU hset,Zf hnr,<-Zn,Ty.enc_toD];rw [ZW,Zx hi2]
           rfl
          ·rw [Xb (Ne.symm hii)]
         have hj2:j<((xs.map U.toD)[i']'(by simpa using hi2)).length:=by rw [Z7,Ty.toD_length];exact hjs
         have ed2:((xs.set i r).map U.toD)[i'][j]=((xs.map U.toD)[i']'(by simpa using hi2))[j]:=by
          rw [Zx hj2] at ed;exact(Zt.1 ed).2
         rw [ed2];have hkk:=hk i' j (by simpa using hi2) hj2;refine eW (E:=E) (k:= .k k) (k' := .k k) (c:=c) (c' :=c) (p0:=P++ [(i',j)]) (g:=fun q=>P++(i',j)::q) (fun q=> ?_) ?_
         ·have:=u9 (P:=P) (x:=(i',j)) (r:=q) (i:=i) (off:=off) (m:=vs.length) hit;rw [Zc,List.singleton_append];exact M.moves this.1 this.2
         ·simp only [Zc,List.singleton_append];exact hkk
     ·cases hn
    ·cases hn
   ·cases hn
  ·cases hn
 |cons q p ih=>
  obtain⟨a,d⟩:=q;intro p0 x x' v hP hn hrd;cases x with
  |sl fl U xs=>
   simp only [cV] at hn;split at hn
   ·rename_i y hy;split at hn
    ·rename_i y' hy';split at hn
     ·rename_i x1 hdec;cases hn;refine⟨⟨fl,U,xs,xs.set a x1,rfl,rfl,by simp⟩,?_⟩;have hsz:=Ty.sz_pos U;have hp0:p0≠P:=by
       rw [hP];intro e;have:=Zd List.length e;simp at this
      have hp0h:bW P i off vs.length p0=false:=by
       unfold bW;split
       ·rename_i z t hz;rw [fZ,hP] at hz;have:=Zd List.length hz;simp at this
       ·rfl
      have hm0:=M.moves hp0 hp0h;by_cases hxs:xs=[]
      ·subst hxs;have hq:=hrd.top;simp only [Zb] at hq;obtain⟨ad,cap,rfl,hcap⟩:=RdP.shape hrd;have ht:=Tip.moves hm0 hq;refine RdP.nil ad cap U.sz ?_;simp only [Zb];exact ht
      have hne:xs.map U.toD≠ []:=by simpa using hxs
      obtain⟨b',o',cap,rfl,hcap,hlen,hq,u,hc,hk⟩:=RdP.cells hrd hne;simp only [Zb] at hq hc;have hq:Tip E (.arr (.k k) c p0) (.slice (some ⟨b',o',none⟩) (xs.map U.toD).length cap) U.sz:=hq;have ho' :o' =0:=by
       match o',hq with
       |0,_=>rfl
       |_+1,hq=>exact hq.elim
      subst ho';have hqt:=Tip.moves hm0 hq;obtain⟨q1,q2,q3,cs,cty,lo,hi,q4,q5,q6⟩:=hq;obtain⟨m1,m2,m3⟩:=hm0 b' q1;have htd:=Ty.dec_toD U _ x1 hdec;have hdlt:d<(U.enc .own (xs.getD a U.dflt)).length:=(Zt.1 hy).1;rw [Ty.enc_length] at hdlt;have hxa:∀(ha:a<xs.length),xs.getD a U.dflt=xs[a]:=fun ha=>by rw [ZW,Zx ha];rfl
      show RdP E'.w _ _ _ (.sl U.sz ((xs.set a x1).map U.toD));have hlen' :∀z∈(xs.set a x1).map U.toD,z.length=U.sz:=by
       intro z hz;obtain⟨y,_,rfl⟩:=Zk.1 hz;exact Ty.toD_length U y
      rw [Zr] at hqt hcap;rw [Zr];refine eF (m3.trans q4) (by simp) hcap hlen' (by simp only [Zb];exact hqt) (fun o ho=> ?_) (fun i' j hi' hj=> ?_)
      ·simp only [Zb];refine⟨?_,hqt.1⟩;rw [hqt.2.1];exact ho
      ·have hi2:i' <xs.length:=by simpa using hi'
       have hi3:i' <(xs.map U.toD).length:=by simpa using hi2
       have e1:((xs.set a x1).map U.toD)[i']=U.toD ((xs.set a x1)[i']'(by simpa using hi2)):=by rw [Z7]
       have hjs:j<U.sz:=by rw [<-hlen' _ (Z4 hi')];exact hj
       obtain⟨hcell,_⟩:=hc i' j hi3 hjs;rw [Zj] at hcell;have hcs:cs[i' *U.sz+j]? =some (u i' j):=by simpa [World.cell?,q4] using hcell
       refine⟨u i' j,hcs,?_⟩;have hj2:j<((xs.map U.toD)[i']'hi3).length:=by rw [Z7,Ty.toD_length];exact hjs
       have hkk:=hk i' j hi3 hj2;by_cases hit:(i',j)=(a,d)
       ·injection hit with hit1 hit2;subst hit1 hit2;have hyd:((xs.map U.toD)[i']'hi3)[j]=y.toD:=by
         have:((xs.map U.toD)[i']'hi3)[j]? =some y.toD:=by
          rw [Z7,<-Ty.enc_toD .own U xs[i'],Zn,<-hxa hi2,hy];rfl
         exact(Zt.1 this).2
        have hyd' :((xs.set i' x1).map U.toD)[i'][j]=y'.toD:=by
         have:((xs.set i' x1).map U.toD)[i'][j]? =some y'.toD:=by
          rw [e1,YF,htd,Zn,YZ (by rw [Ty.enc_length];exact hdlt)];rfl
         exact(Zt.1 this).2
        rw [hyd]  at hkk;rw [hyd'];have:=(ih (p0++ [(i',j)]) y y' (u i' j) (by rw [hP,Zc,List.singleton_append]) hy' (by simp only [Zc,List.singleton_append];exact hkk)).2;simp only [Zc,List.singleton_append] at this;exact this
       ·have ed:((xs.set a x1).map U.toD)[i'][j]? =((xs.map U.toD)[i']'hi3)[j]? :=by
         rw [e1,Z7];by_cases hii:i' =a
         ·subst hii;have hjd:j≠d:=fun e=>hit (by rw [e]);rw [YF,htd,Zn,Yd (Ne.symm hjd),<-Zn,Ty.enc_toD,hxa hi2]
         ·rw [Xb (Ne.symm hii)]
        have ed2:((xs.set a x1).map U.toD)[i'][j]=((xs.map U.toD)[i']'hi3)[j]:=by
         rw [Zx hj2] at ed;exact(Zt.1 ed).2
        rw [ed2];refine eW (E:=E) (k:= .k k) (k' := .k k) (c:=c) (c' :=c) (p0:=p0++ [(i',j)]) (g:=fun q=>p0++(i',j)::q) (fun q=> ?_) ?_
        ·have:=wT (p0:=p0) (p:=p) hit q i off vs.length;rw [<-hP] at this;rw [Zc,List.singleton_append];exact M.moves this.1 this.2
        ·simp only [Zc,List.singleton_append];exact hkk
     ·cases hn
    ·cases hn
   ·cases hn
  |_=>simp only [cV] at hn;cases hn
end
end Go.Ab
end
section
namespace Go.Ab
variable [Inhabited Lb]
theorem RdP.topq{w:World}{ok:List (Nat×Nat)->Nat->Nat->Prop}{q:List (Nat×Nat)->Value->Nat->Prop}{v:Value}{d:D}(h:RdP w ok q v d):
 RdP w ok (fun p v' sz=>q p v' sz/\(p=[]->v' =v)) v d:=by
 cases h with
 |int k n=>exact .int k n
 |bool b=>exact .bool b
 |str s=>exact .str s
 |nil a cap sz h=>exact .nil a cap sz ⟨h,fun _=>rfl⟩
 |sl b off n cap sz rows u hn hcap hr h0 h1 h2=>
  exact .sl b off n cap sz rows u hn hcap hr ⟨h0,fun _=>rfl⟩ h1 fun i j hi hj=>(h2 i j hi hj).mono (fun _ _ _ ho=>⟨rfl,ho⟩) (fun p v sz hq=>⟨hq,fun e=>absurd e (XV _ _)⟩)
section
variable {C:Ctx} {σ:St} {a:Act} {E:Env} {u u' u'' :Ups} {tt:TT} {o:Oper} {md:Md} {v:AV} {ob:List Prop} {ty:TypeId}
theorem pA{E' :Env}(hi:Inv C (St.get (u++σ)) a.tmps E){k c i off b:Nat}{p:List (Nat×Nat)}{T:Ty}{g:Bool}{cs vs:List CV}{ws:List Value}{x x' :CV}
 (hg:St.get (u++σ) k= .v g cs) (hc:cs[c]? =some x) (hmx:x.mutable=true) (hn:cV x p (eG T i off vs)=some x')
 (M:MutSet E E' k c p b i off T vs ws) (st:Step E E' (dkM k c) (fun _=>False) True)
 (hos:E'.w.os=E.w.os) (htp:E'.w.tape=E.w.tape) (hou:E'.w.output=E.w.output) (hsz:E.w.heap.size<=E'.w.heap.size)
 (hold:∀b,b<C.B->C.ow0 b=none->E'.w.heap[b]? =E.w.heap[b]? /\E'.hw b=E.hw b/\E'.ow b=none)
 (hnew:∀b,E'.w.heap.size<=b->E'.ow b=none/\E'.hw b=0) (hinj:∀b b' l,E'.ow b=some l->E'.ow b' =some l->b=b')
 (hbhw:∀b s,E'.ow b=some (.box s)->E'.hw b=0) (hbxE:∀s,E'.bx s=E.bx s):
 Inv C (St.get (((aB,.none)::(k,.v g ((cs.map (CV.stale [k] false)).set c x'))::u)++σ)) a.tmps E' :=by
 have hdr:E'.hdr=E.hdr:=st.hdr
 have key:∀(bxs' :Nat->Prop) (vals:List Value),(∀s,aA (St.get (u++σ)) s->bxs' s/\E'.bx s=E.bx s)->VRs E (aA (St.get (u++σ))) (.k k) 0 cs vals->
  VRs E' bxs' (.k k) 0 (((cs.map (CV.stale [k] false)).set c x').map (CV.stale [aB] true)) vals:=by
  intro bxs' vals hbx h;have hvl:=aS h;refine cC (by simp [hvl]) fun j z y hz hy=> ?_;rw [Zn,Z8] at hz;obtain⟨z0,hz,rfl⟩:=hz;by_cases hj:j=c
  ·subst hj;have hjl:j<cs.length:=(Zt.1 hc).1;rw [YZ (by simpa using hjl)] at hz;cases hz;have hvx:=aZ h hc hy;rw [Zj] at hvx ⊢;cases x with
   |sl fl U xs=>
    have hfl:fl= .own\/∃n,fl= .lnt n:=by cases fl <;>simp [CV.mutable] at hmx ⊢
    have hrd:RdP E.w (fun q=>okF E (.k k) j .own ([]++q)) (fun q=>qF E (.k k) j .own ([]++q)) y (CV.sl fl U xs).toD:=by
     rcases hfl with rfl|⟨n,rfl⟩
     ·exact hvx
     ·exact RdP.mono hvx (fun q b o ho=>⟨rfl,ho⟩) (fun q v sz ht=>ht.1)
    obtain⟨⟨fl',U',xs1,xs',e1,rfl,e3⟩,hrd'⟩:=wJ M p [] _ x' y (by simp) hn hrd;cases e1;rcases hfl with rfl|⟨n,rfl⟩
    ·exact hrd'
    ·have hq:y=E.hdr n:=(RdP.top hvx).2 rfl;refine RdP.mono hrd'.topq (fun q b o ho=>⟨rfl,ho⟩) (fun q v sz ht=>⟨ht.1,fun hq0=> ?_⟩);rw [ht.2 hq0,hq,hdr]
   |_=>simp [CV.mutable] at hmx
  ·rw [Yd (Ne.symm hj),Zn,Z8] at hz;obtain⟨z1,hz,rfl⟩:=hz;have hvz:=aZ h hz hy;rw [CV.stale_stale (s:=[aB,k]) (m:=true) z1 (fun q=>by simp [YO]) rfl];refine CW.vr st hbx (CW.stale (fun _ hd=> ?_) (fun k' c' hd=> ?_) (fun _=>rfl)) hvz
   ·rcases hd with ⟨_,hd⟩|hd
    ·omega
    ·cases hd
   ·rcases hd with ⟨hd,_⟩|hd
    ·injection hd with hd;simp [hd]
    ·cases hd
 have hG:∀q,St.get (((aB,.none)::(k,.v g ((cs.map (CV.stale [k] false)).set c x'))::u)++σ) q=
  if aB=q then .none else if k=q then .v g (((cs.map (CV.stale [k] false)).set c x').map (CV.stale [aB] true)) else((St.get (u++σ) q).mapC (CV.stale [aB,k] true)):=by
  intro q;show St.get ((aB,_)::((k,_)::(u++σ))) q=_;rw [St.get_cons];split
  ·rfl
  ·rw [St.get_cons];split
   ·rfl
   ·rw [AV.mapC_comp]
    congr 1
    funext z
    exact CV.stale_stale z (fun q=>by simp [YO]) (by simp)
 have hbx:∀s,aA (St.get (u++σ)) s->aA (St.get (((aB,.none)::(k,.v g ((cs.map (CV.stale [k] false)).set c x'))::u)++σ)) s/\E'.bx s=E.bx s:=by
  intro s hs;refine⟨?_,hbxE s⟩;obtain⟨ys,hys⟩:=hs;unfold aA;rw [hG];rw [Zf (by unfold aB;omega)];split
  ·rename_i e;rw [e,hys] at hg;cases hg;exact⟨_,rfl⟩
  ·rw [hys];exact⟨_,rfl⟩
 have cw:∀(pl:Pl) (j:Nat) (z:CV),(∀k' ,pl= .k k' ->k' ≠k)->(∀h,pl≠ .h h)->CW (dkM k c) True pl j (z.stale [aB,k] true) z:=by
  intro pl j z h1 h2;refine CW.stale (fun _ hd=> ?_) (fun k' c' hd=> ?_) (fun _=>rfl)
  ·rcases hd with ⟨hd,_⟩|hd
   ·exact h1 _ hd rfl
   ·exact h2 _ hd
  ·rcases hd with ⟨hd,_⟩|hd
   ·injection hd with hd;simp [hd]
   ·cases hd
 refine hi.step st hos htp hou hsz hold hnew hinj hbhw rfl hbx (fun t=> ?_) (fun s cs2 hs=> ?_)
 ·rw [hG];by_cases hm:aB=2*t
  ·rw [Zw hm];exact .inl trivial
  ·rw [Zf hm];by_cases hk:k=2*t
   ·rw [Zw hk];refine .inl ?_;have ht:=hi.tmp t;rw [<-hk,hg] at ht;rw [<-hk];cases g with
    |true=>
     obtain⟨vv,e,hvv⟩:=ht;exact⟨vv,e,key _ _ hbx hvv⟩
    |false=>exact key _ _ hbx ht
   ·rw [Zf hk];exact .inr ⟨AWk.map (fun j z=>cw _ _ _ (fun k' e=>by injection e with e;omega) (fun h e=>by cases e)) _,rfl⟩
 ·rw [hG,Zf (by unfold aB;omega)] at hs;by_cases hk:k=2*s+1
  ·rw [Zw hk] at hs;injection hs with hs1 hs2;subst hs1;have hbr:=hi.box s cs (by rw [<-hk];exact hg);obtain⟨r1,vals,ety,r2,r3⟩:=hbr;obtain⟨q1,q2,q3⟩:=st.box s r1 id;refine .inl ⟨by rw [q1];exact q2,vals,ety,by rw [q1];exact q3.trans r2,?_⟩;rw [<-hs2,<-hk];rw [<-hk] at r3;exact key _ _ hbx r3
  ·rw [Zf hk] at hs;cases hq:St.get (u++σ) (2*s+1) with
   |v g' cs0=>
    rw [hq] at hs;injection hs with hs1 hs2;subst hs1 hs2;exact .inr ⟨id,cs0,rfl,CWs.map (fun j z=>cw _ _ _ (fun k' e=>by injection e with e;omega) (fun h e=>by cases e)) _ _⟩
   |tup xs=>rw [hq] at hs;cases hs
   |none=>rw [hq] at hs;cases hs
theorem wE{w:World}(hi:Inv C (St.get (u++σ)) a.tmps E)(hw:E.w=w){k c i off b:Nat}{p:List (Nat×Nat)}{T:Ty}{g gv:Bool}{cs vs:List CV}{x x' :CV}{val:Value}
 (hg:St.get (u++σ) k= .v g cs) (hc:cs[c]? =some x) (hmx:x.mutable=true) (hn:cV x p (eG T i off vs)=some x')
 (hv:VR1 E (aA (St.get (u++σ))) (.h 0) 0 gv vs val) (hob:E.ow b=some (.arr (.k k) c p)) (hhi:(i+1)*T.sz<=E.hw b) (hfz:∀o,o<E.hw b->E.w.frozen? ⟨b,o,none⟩=false)
 (hcell:∀j,j<T.sz->(E.w.cell? ⟨b,i*T.sz+j,none⟩).isSome=true) (hlen:off+vs.length<=T.sz):
 ∃w',(storeCells ⟨b,i*T.sz+off,none⟩ val.cells.toList 0).run C.P w= .ok () w' /\val.cells.size=vs.length/\
  Hand C (((aB,.none)::(k,.v g ((cs.map (CV.stale [k] false)).set c x'))::u)++σ) a.tmps w' 0 .none undef:=by
 subst hw;have hvs:=i6 hv;generalize hws:val.cells.toList=ws at hvs;have hlenv:=aS hvs;have hone:∀z∈ws,z.oneCell' =true:=by
  intro z hz;obtain⟨j,hj,rfl⟩:=List.mem_iff_getElem.1 hz;exact(aZ hvs (Zx (by omega:j<vs.length)) (Zx hj)).one
 have hb2:i*T.sz+T.sz<=E.hw b:=by rw [ZM,YJ] at hhi;exact hhi
 have run:=run_storeCells_cells (P:=C.P) b (i*T.sz+off) ws 0 E.w (fun j hj=>by
  have:=hcell (off+j) (by omega);rw [Nat.add_zero,Yt];exact this) (fun j hj=>hfz _ (by omega)) hone
 rw [Nat.add_zero] at run;refine⟨_,run,by rw [<-Array.length_toList,hws];exact hlenv.symm,?_⟩;obtain⟨hcs,hty,hfr,hh⟩:∃cs ty fr,E.w.heap[b]? =some (.cells cs ty fr):=by
  have:=hcell 0 (Ty.sz_pos T);unfold World.cell? at this;split at this
  ·exact⟨_,_,_,by assumption⟩
  ·simp at this
 obtain⟨cs',d1,d2,d3⟩:=dM b ws (i*T.sz+off) E.w hh;have hr:=wC k c p i off vs.length;generalize hE:({ w:=E.w.setCells b (i*T.sz+off) ws,hw:=E.hw,ow:=fun b' =>(E.ow b').bind (dC k c p i off vs.length),bx:=E.bx,hdr:=E.hdr }:Env)=E';have E'w:E'.w=E.w.setCells b (i*T.sz+off) ws:=by rw [<-hE]
 have E'ow:∀b',E'.ow b' =(E.ow b').bind (dC k c p i off vs.length):=by rw [<-hE];exact fun _=>rfl
 have E'hw:∀b',E'.hw b' =E.hw b' :=by rw [<-hE];exact fun _=>rfl
 have same:∀b',b' ≠b->E'.w.heap[b']? =E.w.heap[b']? :=fun b' h=>by rw [E'w];exact cW b b' h _ _ _
 have st:Step E E' (dkM k c) (fun _=>False) True:= {
  ro:=fun b' hb' =>by
   have hne:b' ≠b:=by rintro rfl;rw [hob] at hb';cases hb'
   exact⟨fun _=>by rw [E'ow,hb'];rfl,fun o ho=>⟨aT (same b' hne) o,by rw [E'hw];exact ho⟩⟩
  own:=fun b' k' c' q hb' hd=>by
   have hne:b' ≠b:=by rintro rfl;rw [hob] at hb';cases hb';exact hd (.inl ⟨rfl,rfl⟩)
   exact⟨by rw [E'ow,hb'];exact hr.id _ _ _ hd,E'hw b',same b' hne⟩
  bor:=fun h=>absurd trivial h
  box:=fun s hs _=>by
   have hne:E.bx s≠b:=by intro e;rw [e,hob] at hs;cases hs
   exact⟨by rw [<-hE],by rw [E'ow,hs];rfl,same _ hne⟩
  hdr:=by rw [<-hE] }
 have M:MutSet E E' k c p b i off T vs ws:=
  .of hob hi.inj E'ow E'hw same ⟨hcs,cs',hty,hfr,hh,by rw [E'w];exact d1,d2,d3⟩ hvs hhi
 obtain⟨o1,o2,o3⟩:=dN b ws (i*T.sz+off) E.w;refine⟨E',E'w,pA hi hg hc hmx hn M st (by rw [E'w];exact o1) (by rw [E'w];exact o2) (by rw [E'w];exact o3) (by rw [E'w,dB];exact Zi _) (fun b' hlt h0=> ?_) (fun b' hlt=> ?_) (fun b1 b2 l g1 g2=> ?_) (fun b' s h=> ?_) (fun s=>by rw [<-hE]),trivial⟩
 ·have h2:=(hi.old b' hlt h0).2.2;have hne:b' ≠b:=by rintro rfl;rw [hob] at h2;cases h2
  exact⟨same b' hne,E'hw b',by rw [E'ow,h2];rfl⟩
 ·rw [E'w,dB] at hlt;have:=hi.new b' hlt;exact⟨by rw [E'ow,this.1];rfl,by rw [E'hw];exact this.2⟩
 ·rw [E'ow,Zm] at g1 g2;obtain⟨l1,a1,c1⟩:=g1;obtain⟨l2,a2,c2⟩:=g2;have:=hr.inj _ _ _ c1 c2;subst this;exact hi.inj _ _ _ a1 a2
 ·rw [E'ow,Zm] at h;obtain⟨l,a1,c1⟩:=h;rw [E'hw];cases l with
  |box s2=>rw [hr.box] at c1;cases c1;exact hi.boxhw b' _ a1
  |arr k c p=>exact absurd c1 (hr.arr k c p s)
end
end Go.Ab
end
