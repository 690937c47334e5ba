/- A layer over the machine of the kit: an evaluator over plain data that is sound. Conditions: none. -/
import Derived.Below
import Derived.Calls
import Derived.Carry
import Derived.ChangeArms
import Derived.ChangeKeysEq
import Derived.Great.BuildSlice
import Derived.KernelRfl
import Derived.Laws.BytesString
import Derived.Laws.Cells
import Derived.Laws.Entries
import Derived.Laws.Externs
import Derived.Laws.IdiomCopy
import Derived.Laws.MakeOwn
import Derived.Laws.OwnMore
import Derived.Laws.Sem
import Derived.Laws.Strings
import Derived.Laws.Tables
import Derived.Laws.World
import Derived.Lib.AtoiAll
import Derived.Lib.BitFns
import Derived.Lib.Bytealg
import Derived.Lib.ItoaNum
import Derived.Lib.Join
import Derived.Lib.ReflectliteSwap
import Derived.Lib.SplitLaws
import Derived.Lib.Strings
import Derived.OpenShut
import Derived.Orders
import Derived.ProofKit
import Derived.Sort.Defs
import Derived.Sort.EncStr
import Derived.Sort.Grow
import Derived.Tactics
import GoSem.Core.Code
import GoSem.Core.Machine
import GoSem.Core.Region
import GoSem.Core.View
import GoSem.Core.World
import GoSem.Dispatch
import GoSem.Machine.Frame
import GoSem.Op.String
set_option linter.all false
section
def Zz:=@decide_eq_true
def Zy:=@List.mem_of_getElem?
def Zx:=@List.all_eq_true
def Zw:=@decide_eq_false
def Zv:=@List.getElem?_eq_getElem
def Zu:=@Bool.and_eq_true
def Zt:=@if_pos
def Zs:=@List.getElem?_eq_some_iff
def Zr:=@List.mem_cons_of_mem
def Zq:=@Option.bind_eq_some_iff
def Zp:=@List.mem_cons_self
def Zo:=@List.mem_singleton
def Zn:=@Nat.le_refl
def Zm:=@List.length_map
def Zl:=@congrArg
def Zk:=@List.mem_map
def Zj:=@Nat.eq_of_beq_eq_true
def Zi:=@Option.map_eq_some_iff
def Zh:=@List.mem_cons
def Zg:=@Nat.zero_le
def Zf:=@List.mem_append
def Ze:=@List.getElem?_map
def Zd:=@Int.lt_irrefl
def Zc:=@Nat.zero_add
def Zb:=@Array.getElem?_eq_some_iff
def Za:=@if_neg
def Z9:=@decide_false
def Z8:=@List.append_nil
def Z7:=@List.pairwise_cons
def Z6:=@List.not_mem_nil
def Z5:=@List.append_assoc
def Z4:=@List.getD_eq_getElem?_getD
def Z3:=@List.length_eq_zero_iff
def Z2:=@List.contains_iff_mem
def Z1:=@Nat.mul_le_mul_right
def Z0:=@List.getElem?_append_left
def ZZ:=@Nat.lt_of_lt_of_le
def ZY:=@Bool.false_and
def ZX:=@List.map_cons
def ZW:=@List.isEmpty_iff
def ZV:=@Bool.true_and
def ZU:=@decide_eq_true_eq
def ZT:=@Nat.le_trans
def ZS:=@List.getElem?_append_right
def ZR:=@beq_eq_false_iff_ne
def ZQ:=@Int.toNat_of_nonneg
def ZP:=@List.mem_iff_getElem?
def ZO:=@Array.getElem?_toList
def ZN:=@List.getElem_mem
def ZM:=@List.mem_of_mem_take
def ZL:=@Bool.or_eq_false_iff
def ZK:=@Option.some.injEq
def ZJ:=@List.mem_flatMap
def ZI:=@List.mem_range
def ZH:=@List.drop_eq_getElem_cons
def ZG:=@List.nodup_cons
def ZF:=@Bool.not_eq_true'
def ZE:=@List.map_congr_left
def ZD:=@List.getD_cons_zero
def ZC:=@List.drop_drop
def ZB:=@List.map_nil
def ZA:=@Nat.add_assoc
def Yz:=@List.nodup_append
def Yy:=@Array.getD_eq_getD_getElem?
def Yx:=@List.getElem_map
def Yw:=@List.pairwise_iff_getElem
def Yv:=@Bool.or_eq_true
def Yu:=@Nat.add_sub_cancel_left
def Yt:=@Nat.add_mul
def Ys:=@if_true
def Yr:=@List.drop_zero
def Yq:=@Classical.choose_spec
def Yp:=@List.eq_nil_iff_forall_not_mem
def Yo:=@List.any_eq_true
def Yn:=@Ne.symm
def Ym:=@List.mem_filter
def Yl:=@Array.size_push
def Yk:=@List.filter_sublist
def Yj:=@Nat.lt_or_ge
def Yi:=@List.map_map
def Yh:=@Nat.mul_le_mul
def Yg:=@Array.ext'
def Yf:=@List.mem_or_eq_of_mem_set
def Ye:=@bne_self_eq_false
def Yd:=@Prod.mk.injEq
def Yc:=@beq_self_eq_true
def Yb:=@Option.some.inj
def Ya:=@Nat.not_lt_zero
def Y9:=@List.cons.injEq
def Y8:=@List.mem_append_right
def Y7:=@List.length_mergeSort
def Y6:=@Array.getElem?_modify
def Y5:=@List.getElem?_set_ne
def Y4:=@List.mergeSort_perm
def Y3:=@List.getD_cons_succ
def Y0:=@Array.getElem?_push
def YZ:=@List.mem_mergeSort
def YY:=@Bool.false_eq_true
def YX:=@List.take_succ_eq_append_getElem
def YW:=@Nat.le_add_right
def YV:=@List.take_length
def YU:=@List.mem_reverse
def YT:=@List.eq_nil_of_length_eq_zero
def YS:=@List.nodup_nil
def YR:=@List.nodup_iff_pairwise_ne
def YQ:=@Classical.byContradiction
def YP:=@Array.getElem?_eq_getElem
def YO:=@Bool.and_true
def YN:=@List.pairwise_mergeSort
def YM:=@Int.eq_ofNat_of_zero_le
def YL:=@Nat.le_of_eq
def YK:=@List.getElem?_set_self
def YJ:=@Bool.true_or
end
section
theorem jF {α : Type _} {a b : α} : cond false a b = b := rfl
theorem jT {α : Type _} {a b : α} : cond true a b = a := rfl
theorem jS {α : Type _} {β : Type _} (a : α) (f : α -> Option β) : Option.bind (some a) f = f a := rfl
theorem jL {a b : Nat} (h : Nat.ble a b = true) : a <= b := Nat.le_of_ble_eq_true h
theorem jA {α : Type _} {a b : List α} : (a ++ b).length = a.length + b.length := List.length_append
theorem jC {α : Type _} {a : α} {b : List α} : (a :: b).length = b.length + 1 := rfl
theorem jN {α : Type _} : ([] : List α).length = 0 := rfl
theorem jI (n : Nat) : Int.toNat (n : Int) = n := rfl
theorem jE {α : Type _} : ([] : List α).isEmpty = true := rfl
theorem jU : (!true) = false := rfl
theorem jV : (!false) = true := rfl
theorem jM {α : Type _} (a : List α) : [] ++ a = a := rfl
theorem jO {α : Type _} {a : α} {b c : List α} : (a :: b) ++ c = a :: (b ++ c) := rfl
theorem jG {α : Type _} {a b : α} : (some a).getD b = a := rfl
end
section
namespace Go.Ab
abbrev Str:=List UInt8
structure Org where
 cell:Int
 row:Int
 deriving DecidableEq,Inhabited
structure Rowd where
 cells:List Int
 frm:List Org
 deriving DecidableEq,Inhabited
inductive Val where
 |mk (kind n step:Int) (text:Str) (list:List Val) (columns:List Str) (rows:List Rowd)
inductive Exp where
 |mk (kind n:Int) (text:Str) (args:List Exp)
structure Fil where
 name:Str
 n:Int
 deriving DecidableEq,Inhabited
structure Tok where
 kind:Int
 n:Int
 pos:Int
 text:Str
 deriving DecidableEq,Inhabited
structure Cel where
 id:Int
 version:Int
 kind:Int
 name:Str
 code:Str
 n:Int
 deriving DecidableEq,Inhabited
namespace Val
def kind:Val->Int|mk k _ _ _ _ _ _=>k
def n:Val->Int|mk _ n _ _ _ _ _=>n
def step:Val->Int|mk _ _ s _ _ _ _=>s
def text:Val->Str|mk _ _ _ t _ _ _=>t
def list:Val->List Val|mk _ _ _ _ l _ _=>l
def columns:Val->List Str|mk _ _ _ _ _ c _=>c
def rows:Val->List Rowd|mk _ _ _ _ _ _ r=>r
def zero:Val:=mk 0 0 0 [] [] [] []
instance:Inhabited Val:=⟨zero⟩
theorem eta(v:Val):mk v.kind v.n v.step v.text v.list v.columns v.rows=v:=by cases v;rfl
end Val
namespace Exp
def kind:Exp->Int|mk k _ _ _=>k
def n:Exp->Int|mk _ n _ _=>n
def text:Exp->Str|mk _ _ t _=>t
def args:Exp->List Exp|mk _ _ _ a=>a
def zero:Exp:=mk 0 0 [] []
instance:Inhabited Exp:=⟨zero⟩
theorem eta(v:Exp):mk v.kind v.n v.text v.args=v:=by cases v;rfl
end Exp
structure Rea where
 kind:Int
 n:Int
 time:Int
 text:Str
 result:Val
 deriving Inhabited
structure Bnd where
 name:Str
 value:Val
 deriving Inhabited
inductive Ty where
 |int|byte|str|org|row|val|exp|fil|tok|rea|bnd|cel
 deriving DecidableEq
@[reducible] def Ty.den:Ty->Type
  | .int=>Int| .byte=>Int| .str=>Str| .org=>Org| .row=>Rowd| .val=>Val| .exp=>Exp| .fil=>Fil| .tok=>Tok| .rea=>Rea| .bnd=>Bnd| .cel=>Cel
def Ty.dflt:(T:Ty)->T.den
 | .int=>(0:Int) | .byte=>(0:Int) | .str=>([]:Str) | .org=>(⟨0,0⟩:Org) | .row=>(⟨[],[]⟩:Rowd) | .val=>Val.zero| .exp=>Exp.zero
 | .fil=>(⟨[],0⟩:Fil) | .tok=>(⟨0,0,0,[]⟩:Tok) | .rea=>(⟨0,0,0,[],Val.zero⟩:Rea) | .bnd=>(⟨[],Val.zero⟩:Bnd) | .cel=>(⟨0,0,0,[],[],0⟩:Cel)
def Ty.sz:Ty->Nat
 | .int=>1| .byte=>1| .str=>1| .org=>2| .row=>2| .val=>7| .exp=>4| .fil=>2| .tok=>4| .rea=>11| .bnd=>8| .cel=>6
def Ty.flat:Ty->Bool
 | .row| .val| .exp| .rea| .bnd=>false
 |_=>true
inductive Fl where
 |ro|bor|own|tip
 |lnt (n:Nat)
 |al (k c:Nat) (p:List (Nat×Nat))
 deriving DecidableEq
inductive CV where
 |int (k:IntKind) (n:Int)
 |bool (b:Bool)
 |str (s:Str)
 |sl (f:Fl) (T:Ty) (xs:List T.den)
 |ptr (s off:Nat)
 |clo (k:Nat) (ss:List Nat)
 |swp (sf n:Nat) (h:Value) (s:Nat)
 |eptr (f:Fl) (T:Ty) (x:T.den) (off:Nat)
 |eref (k c:Nat) (p:List (Nat×Nat)) (i:Nat) (T:Ty) (x:T.den) (off:Nat)
 |apd (k c:Nat) (p:List (Nat×Nat)) (T:Ty) (xs:List T.den)
 |val (v:Value)
 |undef
inductive AV where
 |v (agg:Bool) (cs:List CV)
 |tup (xs:List (Bool×List CV))
 |none
abbrev AV.int(k:IntKind)(n:Int):AV:= .v false [.int k n]
abbrev AV.bool(b:Bool):AV:= .v false [.bool b]
abbrev AV.str(s:Str):AV:= .v false [.str s]
def Ty.enc(f:Fl):(T:Ty)->T.den->List CV
 | .int,n=> [.int .i64 n]
 | .byte,n=> [.int .u8 n]
 | .str,s=> [.str s]
 | .org,o=> [.int .i64 (Org.cell o),.int .i64 (Org.row o)]
 | .row,r=> [.sl f .int (Rowd.cells r),.sl f .org (Rowd.frm r)]
 | .val,v=> [.int .i64 (Val.kind v),.int .i64 (Val.n v),.int .i64 (Val.step v),.str (Val.text v),.sl f .val (Val.list v),.sl f .str (Val.columns v),.sl f .row (Val.rows v)]
 | .exp,e=> [.int .i64 (Exp.kind e),.int .i64 (Exp.n e),.str (Exp.text e),.sl f .exp (Exp.args e)]
 | .fil,x=> [.str (Fil.name x),.int .i64 (Fil.n x)]
 | .tok,t=> [.int .i64 (Tok.kind t),.int .i64 (Tok.n t),.int .i64 (Tok.pos t),.str (Tok.text t)]
 | .rea,r=> [.int .i64 (Rea.kind r),.int .i64 (Rea.n r),.int .i64 (Rea.time r),.str (Rea.text r),
     .int .i64 (Val.kind (Rea.result r)),.int .i64 (Val.n (Rea.result r)),.int .i64 (Val.step (Rea.result r)),.str (Val.text (Rea.result r)),.sl f .val (Val.list (Rea.result r)),.sl f .str (Val.columns (Rea.result r)),.sl f .row (Val.rows (Rea.result r))]
 | .bnd,b=> [.str (Bnd.name b),
     .int .i64 (Val.kind (Bnd.value b)),.int .i64 (Val.n (Bnd.value b)),.int .i64 (Val.step (Bnd.value b)),.str (Val.text (Bnd.value b)),.sl f .val (Val.list (Bnd.value b)),.sl f .str (Val.columns (Bnd.value b)),.sl f .row (Val.rows (Bnd.value b))]
 | .cel,c=> [.int .i64 (Cel.id c),.int .i64 (Cel.version c),.int .i64 (Cel.kind c),.str (Cel.name c),.str (Cel.code c),.int .i64 (Cel.n c)]
def Ty.dec:(T:Ty)->List CV->Option T.den
 | .int,[.int .i64 n]=>some n
 | .byte,[.int .u8 n]=>some n
 | .str,[.str s]=>some s
 | .org,[.int .i64 a,.int .i64 b]=>some ⟨a,b⟩
 | .row,[.sl _ .int a,.sl _ .org b]=>some ⟨a,b⟩
 | .val,[.int .i64 k,.int .i64 n,.int .i64 s,.str t,.sl _ .val l,.sl _ .str c,.sl _ .row r]=>some (.mk k n s t l c r)
 | .exp,[.int .i64 k,.int .i64 n,.str t,.sl _ .exp a]=>some (.mk k n t a)
 | .fil,[.str s,.int .i64 n]=>some ⟨s,n⟩
 | .tok,[.int .i64 k,.int .i64 n,.int .i64 p,.str t]=>some ⟨k,n,p,t⟩
 | .rea,[.int .i64 k,.int .i64 n,.int .i64 t,.str x,.int .i64 k',.int .i64 n',.int .i64 s,.str t',.sl _ .val l,.sl _ .str c,.sl _ .row r]=>some ⟨k,n,t,x,.mk k' n' s t' l c r⟩
 | .bnd,[.str x,.int .i64 k',.int .i64 n',.int .i64 s,.str t',.sl _ .val l,.sl _ .str c,.sl _ .row r]=>some ⟨x,.mk k' n' s t' l c r⟩
 | .cel,[.int .i64 a,.int .i64 b,.int .i64 c,.str d,.str e,.int .i64 n]=>some ⟨a,b,c,d,e,n⟩
 |_,_=>none
def CV.isBor:CV->Bool
 | .sl .bor _ _=>true
 | .eptr .bor _ _ _=>true
 | .apd _ _ _ _ _=>true
 |_=>false
def CV.onKey(ks:List Nat):CV->Bool
 | .sl (.al k _ _) _ _=>ks.contains k
 | .eref k _ _ _ _ _ _=>ks.contains k
 | .apd k _ _ _ _=>ks.contains k
 |_=>false
def AV.mapC(f:CV->CV):AV->AV
 | .v g cs=> .v g (cs.map f)
 | .tup xs=> .tup (xs.map fun x=>(x.1,x.2.map f))
 | .none=> .none
def aC:Nat:=1000000
def CV.stale(seen:List Nat)(m:Bool)(c:CV):CV:=cond (c.onKey seen||(m&&c.isBor)) .undef c
abbrev St:=List (Nat×AV)
def St.getS:St->Nat->List Nat->Bool->AV
 | [],_,_,_=> .none
 |(k,v)::r,q,seen,m=>cond (k.beq q) (v.mapC (CV.stale seen m)) (St.getS r q (k::seen) (m||k.beq aC))
def St.get(σ:St)(q:Nat):AV:=St.getS σ q [] false
def kA:St->Nat->List Nat->Bool->AV ⊕ (List Nat×Bool)
 | [],_,seen,m=> .inr (seen,m)
 |(k,v)::r,q,seen,m=>cond (k.beq q) (.inl (v.mapC (CV.stale seen m))) (kA r q (k::seen) (m||k.beq aC))
structure TI where
 sz:Nat:=1
 agg:Bool:=false
 zero:Option (List CV):=none
 offs:List Nat:=[]
 fsz:List Nat:=[]
 elem:Option (Nat×Ty):=none
 bytes:Nat:=8
 same:Bool:=false
 ik:Option IntKind:=none
 isStr:Bool:=false
 isBool:Bool:=false
 isFn:Bool:=false
abbrev TT:=List (Nat×TI)
def TT.get:TT->Nat->Option TI
 | [],_=>none
 |(k,v)::r,q=>cond (k.beq q) (some v) (TT.get r q)
def Lim:Nat:=274877906944
def CV.cp:CV->CV
 | .sl .own T xs=> .sl .bor T xs
 | .sl .tip T xs=> .sl .bor T xs
 | .sl (.lnt _) T xs=> .sl .bor T xs
 | .apd _ _ _ _ _=> .undef
 |c=>c
def CV.left:CV->CV
 | .sl .own _ _=> .undef
 | .sl .tip _ _=> .undef
 | .sl (.lnt _) _ _=> .undef
 | .apd _ _ _ _ _=> .undef
 |c=>c
def CV.noAl:CV->CV
 | .sl (.al _ _ _) _ _=> .undef
 | .eref _ _ _ _ _ _ _=> .undef
 | .apd _ _ _ _ _=> .undef
 |c=>c
def CV.plain:CV->Bool
 | .int _ _=>true
 | .bool _=>true
 | .str _=>true
 | .sl .ro _ _=>true
 | .sl .own _ _=>true
 | .sl .tip _ _=>true
 | .val _=>true
 |_=>false
def AV.plain:AV->Bool
 | .v _ cs=>cs.all CV.plain
 | .tup xs=>xs.all fun x=>x.2.all CV.plain
 | .none=>false
def CV.alias(k c:Nat)(p:List (Nat×Nat)):CV->CV
 | .sl .own T xs=> .sl (.al k c p) T xs
 | .sl (.lnt _) T xs=> .sl (.al k c p) T xs
 | .sl .tip T xs=> .sl .bor T xs
 | .apd _ _ _ _ _=> .undef
 |x=>x
def cV(k:Nat):Nat->List CV->List CV
 |_,[]=> []
 |c,x::r=>x.alias k c []::cV k (c+1) r
def eB(k c:Nat)(p:List (Nat×Nat))(i:Nat):Nat->List CV->List CV
 |_,[]=> []
 |j,x::r=>x.alias k c (p++ [(i,j)])::eB k c p i (j+1) r
inductive Md where
 |cp|take|ref
 deriving DecidableEq
def CV.em:CV->CV
 | .sl .bor T []=> .sl .ro T []
 |c=>c
def CV.fz:CV->CV
 | .sl .own T xs=> .sl .ro T xs
 | .sl .tip T xs=> .sl .ro T xs
 | .sl (.lnt _) _ _=> .undef
 | .apd _ _ _ _ _=> .undef
 |c=>c
def gV(tt:TT)(ty:TypeId):Value->AV
 | .int k n=> .int k n
 | .bool b=> .bool b
 | .string s=> .str s.data.toList
 | .slice .none 0 0=>match tt.get ty with
   |some i=>match i.elem with
    |some (_,T)=> .v false [.sl .own T []]
    |none=> .none
   |none=> .none
 | .nilFunc=> .v false [.val .nilFunc]
 | .pointer none=> .v false [.val (.pointer none)]
 |_=> .none
inductive RT (α:Type) where
 |ret (a:α)
 |fail
 |rd (k:Nat) (f:AV->RT α)
def RT.bind{α β:Type}:RT α->(α->RT β)->RT β
 | .ret a,f=>f a
 | .fail,_=> .fail
 | .rd k g,f=> .rd k fun a=>(g a).bind f
def RT.run{α:Type}(g:Nat->AV):RT α->Option α
 | .ret a=>some a
 | .fail=>none
 | .rd k f=>(f (g k)).run g
def RT.log{α:Type}(g:Nat->AV):RT α->List Nat
 | .ret _=> []
 | .fail=> []
 | .rd k f=>k::(f (g k)).log g
abbrev Ups:=List (Nat×AV)
def aN{α:Type}:List (Nat×α)->Nat->Option α
 | [],_=>none
 |(k,v)::r,q=>cond (k.beq q) (some v) (aN r q)
def M(α:Type):Type:=Ups->RT (α×Ups)
def M.pure{α:Type}(a:α):M α:=fun u=> .ret (a,u)
def M.bind{α β:Type}(m:M α)(f:α->M β):M β:=fun u=>(m u).bind fun x=>f x.1 x.2
instance:Monad M where
 pure:=M.pure
 bind:=M.bind
def bad{α:Type}:M α:=fun _=> .fail
def cD(k:Nat):M AV:=fun u=>match kA u k [] false with
 | .inl a=> .ret (a,u)
 | .inr (seen,m)=> .rd k fun a=> .ret (a.mapC (CV.stale seen m),u)
def bQ(k:Nat)(a:AV):M Unit:=fun u=> .ret ((),(k,a)::u)
def ofO{α:Type}:Option α->M α
 |some a=>M.pure a
 |none=>bad
def rdK(md:Md)(k:Nat):M AV:=
 (cD k).bind fun a=>match md with
 | .cp=>M.pure (a.mapC CV.cp)
 | .take=>(bQ k ((a.mapC (CV.stale [k] false)).mapC CV.left)).bind fun _=>M.pure (a.mapC (CV.stale [k] false))
 | .ref=>match a with
   | .v g cs=>M.pure (.v g (cV k 0 cs))
   |_=>bad
def opd(tt:TT)(md:Md)(ty:TypeId)(x:Operand):M AV:=
 match x with
 | .tmp t=>rdK md (2*t)
 | .const v=>M.pure (gV tt ty v)
 | .func f=>M.pure (.v false [.val (.func (.func f) #[] #[])])
 | .global _=>bad
def fZ:AV->M CV
 | .v false [c]=>M.pure c
 |_=>bad
def opc(tt:TT)(ty:TypeId)(x:Operand):M CV:=(opd tt .cp ty x).bind fZ
def dC(s:Nat):M (List CV):=(cD (2*s+1)).bind fun a=>match a with
 | .v true cs=>M.pure cs
 |_=>bad
def kN(tt:TT)(ty:TypeId)(x:Operand):M (List CV):=(opd tt .take ty x).bind fun a=>match a with
 | .v _ cs=>M.pure (cs.map CV.noAl)
 |_=>bad
def mO(tt:TT)(ty:TypeId)(x:Operand):M (List CV):=(opd tt .take ty x).bind fun a=>match a with
 | .v _ cs=>M.pure cs
 |_=>bad
def cF{α:Type}:List α->Nat->List α->Option (List α)
 |l,0,vs=>if vs.length<=l.length then some (vs++l.drop vs.length) else none
 |x::l,n+1,vs=>(cF l n vs).map (x:: ·)
 | [],_+1,_=>none
def dH:List CV->Option Fl
 | []=>some .own
 | .sl .own _ _::r=>dH r
 | .sl .ro _ _::r=>(dH r).map fun _=> .ro
 | .sl .tip _ _::r=>(dH r).map fun _=> .ro
 | .int _ _::r=>dH r
 | .bool _::r=>dH r
 | .str _::r=>dH r
 |_=>none
def bZ:List CV->List CV->Option Bool
 | [.int _ a],[.int _ b]=>some (a==b)
 | [.str a],[.str b]=>some (a==b)
 | [.bool a],[.bool b]=>some (a==b)
 | .int _ a::r,.int _ b::r' =>(bZ r r').map ((a==b)&& ·)
 | .str a::r,.str b::r' =>(bZ r r').map ((a==b)&& ·)
 | .bool a::r,.bool b::r' =>(bZ r r').map ((a==b)&& ·)
 |_,_=>none
def bW:List CV->List CV->Bool
 | [],[]=>true
 | .int k _::r,.int k' _::r' =>decide (k=k')&&bW r r'
 | .str _::r,.str _::r' =>bW r r'
 | .bool _::r,.bool _::r' =>bW r r'
 |_,_=>false
def gC:Option (List CV)->List CV->Bool
 |some z,as=>bW z as
 |none,_=>false
def sI(k:IntKind)(x y:Int):Int:=k.wrap (BitVec.ofInt k.bits x &&& BitVec.ofInt k.bits y).toNat
def zP(k:IntKind)(x y:Int):Int:=k.wrap (BitVec.ofInt k.bits x ^^^ BitVec.ofInt k.bits y).toNat
def eS(op:BinOp)(a b:CV):Option (CV×List Prop):=
 match a,b with
 | .int k x,.int k' y=>
   match op with
   | .shl=>if k= .u64 then some (.int .u64 (IntKind.u64.wrap (x*2 ^ y.toNat)),[0<=y/\y<64]) else none
   | .shr=>if k= .i64\/k= .u64 then some (.int k (x.fdiv ((2:Int) ^ y.toNat)),[0<=y/\y<64]) else none
   |_=>if k=k' then match op with
    | .add=>some (.int k (k.wrap (x+y)),[])
    | .sub=>some (.int k (k.wrap (x - y)),[])
    | .mul=>some (.int k (k.wrap (x*y)),[])
    | .quo=>some (.int k (k.wrap (x.tdiv y)),[y≠0])
    | .rem=>some (.int k (x.tmod y),[y≠0])
    | .eql=>some (.bool (x==y),[])
    | .neq=>some (.bool (x != y),[])
    | .lss=>some (.bool (decide (x<y)),[])
    | .leq=>some (.bool (decide (x<=y)),[])
    | .gtr=>some (.bool (decide (x>y)),[])
    | .geq=>some (.bool (decide (x>=y)),[])
    | .and=>some (.int k (sI k x y),[])
    | .xor=>some (.int k (zP k x y),[])
    |_=>none
    else none
 | .str x,.str y=>
   match op with
   | .add=>some (.str (x++y),[x.length+y.length<=Lim])
   | .eql=>some (.bool (x==y),[])
   | .neq=>some (.bool (!(x==y)),[])
   | .lss=>some (.bool (Op.bytesLess x y),[])
   | .leq=>some (.bool (Op.bytesLess x y||x==y),[])
   | .gtr=>some (.bool (!(Op.bytesLess x y||x==y)),[])
   | .geq=>some (.bool (!Op.bytesLess x y),[])
   |_=>none
 |_,_=>none
structure CallO where
 res:AV
 outs:List (List CV):=[]
 lents:List CV:=[]
inductive Arg where
 |val (a:AV)
 |box (cs:List CV)
 |gbox (cs:List CV)
def gS(tt:TT):List Operand->List TypeId->M (List Arg×List Nat)
 | [],_=>M.pure ([],[])
 |x::xs,tys=>(gS tt xs (tys.drop 1)).bind fun p=>(opd tt .cp (tys.headD 0) x).bind fun a=>match a with
  | .v false [.ptr s 0]=>(dC s).bind fun cs=>match p.2 with
    | []=>M.pure (.box cs::p.1,[s])
    |_=>bad
  | .v g cs=>M.pure (.val (.v g cs)::p.1,p.2)
  |_=>bad
def eJ(own:Bool):List Nat->List (List CV)->M Unit
 | [],[]=>M.pure ()
 | [s],[cs]=>(dC s).bind fun old=>cond (old.length.beq cs.length) ((bQ (2*s+1) (.v true cs)).bind fun _=>cond own (bQ aC .none) (M.pure ())) bad
 |_,_=>bad
def CV.toRo:CV->CV
 | .sl (.al _ _ _) T xs=> .sl .ro T xs
 | .sl .bor T xs=> .sl .ro T xs
 | .sl .own T []=> .sl .ro T []
 | .sl .own _ _=> .undef
 | .sl .tip _ _=> .undef
 | .sl (.lnt _) _ _=> .undef
 | .eref _ _ _ _ _ _ _=> .undef
 | .eptr _ _ _ _=> .undef
 | .ptr _ _=> .undef
 | .clo _ _=> .undef
 | .swp _ _ _ _=> .undef
 | .apd _ _ _ _ _=> .undef
 |c=>c
def CV.toBx:CV->CV
 | .sl .bor T xs=> .sl .ro T xs
 | .sl (.al _ _ _) _ _=> .undef
 | .sl (.lnt _) _ _=> .undef
 | .eref _ _ _ _ _ _ _=> .undef
 | .eptr _ _ _ _=> .undef
 | .ptr _ _=> .undef
 | .clo _ _=> .undef
 | .swp _ _ _ _=> .undef
 | .apd _ _ _ _ _=> .undef
 |c=>c
def Arg.toRo:Arg->Arg
 | .val a=> .val (a.mapC CV.toRo)
 | .box cs=> .box (cs.map CV.toBx)
 | .gbox cs=> .gbox (cs.map CV.toBx)
def CV.isBorAl:CV->Bool
 | .sl .bor _ _=>true
 | .sl (.al _ _ _) _ _=>true
 |_=>false
def aR:List Arg->Bool
 | []=>false
 | .val (.v _ cs)::r=>cs.any CV.isBorAl||aR r
 | .val _::_=>true
 | .box cs::r=>cs.any CV.isBorAl||aR r
 | .gbox cs::r=>cs.any CV.isBorAl||aR r
def CV.isOwn:CV->Bool
 | .sl .own _ _=>true
 | .sl .tip _ _=>true
 | .sl (.lnt _) _ _=>true
 |_=>false
def cI:List Arg->Bool
 | []=>false
 | .val _::r=>cI r
 | .box cs::r=>cs.any CV.isOwn||cI r
 | .gbox cs::r=>cs.any CV.isOwn||cI r
abbrev aJ:=Nat×Nat×List (Nat×Nat)×Ty
def aO:Nat->List CV->List CV×List aJ
 |_,[]=>([],[])
 |n,.sl (.al k c p) T xs::r=>(.sl (.lnt n) T xs::(aO (n+1) r).1,(k,c,p,T)::(aO (n+1) r).2)
 |n,x::r=>(x.toRo::(aO n r).1,(aO n r).2)
def aW:Nat->List Arg->List Arg×List aJ
 |_,[]=>([],[])
 |n,.val (.v g cs)::r=>(.val (.v g (aO n cs).1)::(aW (n+(aO n cs).2.length) r).1,(aO n cs).2++(aW (n+(aO n cs).2.length) r).2)
 |n,x::r=>(x.toRo::(aW n r).1,(aW n r).2)
def AV.nbox:AV->Option (List CV)
 | .tup [(false,[.ptr _ _]),(true,cs)]=>Option.some cs
 |_=>Option.none
def CV.rob:CV->CV
 | .sl .ro T xs=> .sl .bor T xs
 | .sl .tip T xs=> .sl .bor T xs
 |c=>c
def fD(tt:TT)(ty:TypeId)(place:Nat->Option (Nat×Nat)):List (Nat×Operand)->List CV->M (List CV)
 | [],cs=>M.pure cs
 |(i,x)::r,cs=>(kN tt ty x).bind fun vs=>match place i with
  |some (p,n)=>cond (vs.length.beq n) ((ofO (cF cs p vs)).bind fun cs' =>fD tt ty place r cs') bad
  |none=>bad
def eO(T:Ty):Nat->List CV->Option (List T.den×Fl)
 |0,[]=>some ([],.own)
 |n+1,cs=>match T.dec (cs.take T.sz),dH (cs.take T.sz),eO T n (cs.drop T.sz) with
  |some x,some f,some (xs,f')=>some (x::xs,if f= .own then f' else .ro)
  |_,_,_=>none
 |_,_=>none
abbrev Eff:=AV×List Prop
def lA(a b:CV):Option (CV×List Prop):=
 match a,b with
 | .sl f T xs,.sl g U ys=>
   if h:U=T then
    if f= .own\/f= .tip then
     if T.flat then some (.sl .own T (xs++h ▸ ys),[xs.length+ys.length<=Lim])
     else if g= .ro\/g= .own\/g= .tip then some (.sl (if f= .own/\g= .own then .own else .tip) T (xs++h ▸ ys),[xs.length+ys.length<=Lim])
     else none
    else none
   else none
 | .sl f .byte xs,.str ys=>if f= .own\/f= .tip then some (.sl .own .byte (xs++ys.map fun c=>(c.toNat:Int)),[xs.length+ys.length<=Lim]) else none
 |_,_=>none
def k9(a b:CV):Option (CV×List Prop):=
 match a,b with
 | .sl (.al k c p) T xs,.sl _ U ys=>if h:U=T then cond T.flat (some (.apd k c p T (xs++h ▸ ys),[xs.length+ys.length<=Lim])) none else none
 |_,_=>none
def Fl.part:Fl->Fl
 | .ro=> .ro
 |_=> .bor
def mY(c:CV)(lo hi:Option CV):Option (CV×List Prop):=
 match c,lo,hi with
 | .str s,some (.int _ l),some (.int _ h)=>some (.str ((s.take h.toNat).drop l.toNat),[0<=l/\l<=h/\h<=s.length])
 | .str s,some (.int _ l),none=>some (.str (s.drop l.toNat),[0<=l/\l<=s.length])
 | .str s,none,some (.int _ h)=>some (.str (s.take h.toNat),[0<=h/\h<=s.length])
 | .str s,none,none=>some (.str s,[])
 | .sl f T xs,some (.int _ l),some (.int _ h)=>some (.sl f.part T ((xs.take h.toNat).drop l.toNat),[0<=l/\l<=h/\h<=xs.length])
 | .sl f T xs,some (.int _ l),none=>some (.sl f.part T (xs.drop l.toNat),[0<=l/\l<=xs.length])
 | .sl f T xs,none,some (.int _ h)=>some (.sl f.part T (xs.take h.toNat),[0<=h/\h<=xs.length])
 | .sl f T xs,none,none=>some (.sl f.part T xs,[])
 |_,_,_=>none
def fP:List (Nat×Bool)->Nat->Option Bool
 | [],_=>none
 |(k,b)::r,q=>cond (k.beq q) (some b) (fP r q)
section
variable (tt:TT) (con:FuncId->List Arg->CallO->Prop)
def cB(a:AV):M Eff:=M.pure (a,[])
def aH(a:CV)(ob:List Prop:=[]):M Eff:=M.pure (.v false [a],ob)
def mB(md:Md)(i:TI)(s off:Nat):M Eff:=(dC s).bind fun cs=>cond ((off+i.sz).ble cs.length)
 (match md with
   | .cp=>cB (.v i.agg (((cs.drop off).take i.sz).map CV.cp))
   | .take=>(ofO (cF (cs.map CV.noAl) off ((((cs.map CV.noAl).drop off).take i.sz).map CV.left))).bind fun new=>(bQ (2*s+1) (.v true new)).bind fun _=>cB (.v i.agg (((cs.map CV.noAl).drop off).take i.sz))
   | .ref=>cB (.v i.agg (((cV (2*s+1) 0 cs).drop off).take i.sz))) bad
def rD(s off:Nat)(vs:List CV):M Eff:=(dC s).bind fun cs=>(ofO (cF (cs.map CV.noAl) off vs)).bind fun cs' =>(bQ (2*s+1) (.v true cs')).bind fun _=>cB .none
def cY:CV->List (Nat×Nat)->(CV->Option CV)->Option CV
 |x,[],f=>f x
 | .sl fl T xs,(i,j)::p,f=>
   match(T.enc .own (xs.getD i T.dflt))[j]? with
   |some y=>match cY y p f with
    |some y' =>match T.dec ((T.enc .own (xs.getD i T.dflt)).set j y') with
     |some x' =>some (.sl fl T (xs.set i x'))
     |none=>none
    |none=>none
   |none=>none
 |_,_::_,_=>none
def eQ(T:Ty)(i off:Nat)(vs:List CV):CV->Option CV
 | .sl fl U xs=>if U=T then match dH vs,cF (U.enc .own (xs.getD i U.dflt)) off vs with
   |some .own,some row=>match U.dec row with
    |some x' =>some (.sl fl U (xs.set i x'))
    |none=>none
   |_,_=>none
   else none
 |_=>none
def kP(U:Ty)(y:CV):CV->Option (CV×Prop)
 | .sl fl T xs=>match y with
   | .sl _ V ys=>if h:V=T then cond (decide (U=T)) (some (.sl fl T (h ▸ ys),ys.length=xs.length)) none else none
   |_=>none
 |_=>none
def CV.mutable:CV->Bool
 | .sl .own _ _=>true
 | .sl (.lnt _) _ _=>true
 |_=>false
def nB(k c:Nat)(p:List (Nat×Nat))(f:CV->Option CV):M Unit:=(cD k).bind fun a=>match a with
 | .v g cs=>(ofO (cs[c]?)).bind fun x=>cond x.mutable ((ofO (cY x p f)).bind fun x' =>bQ k (.v g ((cs.map (CV.stale [k] false)).set c x'))) bad
 |_=>bad
def fG(k:Nat):List aJ->List CV->List CV->Option (List CV×List Prop)
 | [],[],cs=>some (cs,[])
 |(k',c,[],U)::L,y::ys,cs=>cond (k'.beq k) (match cs[c]? with
  |some x=>cond x.mutable (match kP U y x with
   |some (x',p)=>match fG k L ys (cs.set c x') with
    |some (cs',ps)=>some (cs',p::ps)
    |none=>none
   |none=>none) none
  |none=>none) none
 |_,_,_=>none
def d6(k c i:Nat):List aJ->List CV->List CV->Option (List CV×List Prop)
 | [],[],cs=>some (cs,[])
 |(k',c',[(i',j)],U)::L,y::ys,cs=>cond (k'.beq k&&c'.beq c) (match cs[j]? with
  |some x=>match kP U y x with
   |some (x',p)=>match d6 k c i L ys (cs.set j x') with
    |some (cs',ps)=>some (cs',(i' =i)::p::ps)
    |none=>none
   |none=>none
  |none=>none) none
 |_,_,_=>none
def bA:List Nat->Bool
 | []=>true
 |x::r=> !r.contains x&&bA r
def pJ:List aJ->List CV->List CV->Option (List CV×List Prop)
 |(k,c,[],U)::L,ys,cs=>cond (bA (((k,c,[],U)::L).map fun z=>z.2.1)) (fG k ((k,c,[],U)::L) ys cs) none
 |(k,c,[(i,j)],U)::L,ys,cs=>cond (bA (((k,c,[(i,j)],U)::L).map fun z=>(z.2.2.1.headD (0,0)).2)) (match cs[c]? with
  |some (.sl f T xs)=>cond (CV.mutable (.sl f T xs)) (match d6 k c i ((k,c,[(i,j)],U)::L) ys (T.enc .own (xs.getD i T.dflt)) with
   |some (row,ps)=>match T.dec row with
    |some x' =>some (cs.set c (.sl f T (xs.set i x')),ps)
    |none=>none
   |none=>none) none
  |_=>none) none
 |_,_,_=>none
def iG(L:List aJ)(ys:List CV):M (List Prop):=
 match L with
 |z::L' =>(cD z.1).bind fun a=>match a with
  | .v g cs=>(ofO (pJ (z::L') ys (cs.map (CV.stale [z.1] false)))).bind fun q=>(bQ z.1 (.v g q.1)).bind fun _=>(bQ aC .none).bind fun _=>M.pure q.2
  |_=>bad
 | []=>bad
def CallO.plain(r:CallO):Bool:=r.res.plain&&r.outs.all (·.all CV.plain)
def cA:List Arg->Bool
 | []=>false
 | .val (.v _ cs)::r=>cs.any CV.isBor||cA r
 |_::_=>true
def mP(f:FuncId)(r:CallO)(p:List Arg×List Nat):M Eff:=match r.lents with
 | []=>cond (aR p.1)
   (cond (cI p.1) bad ((eJ false p.2 (r.outs.map (·.map CV.rob))).bind fun _=>M.pure (r.res.mapC CV.rob,[con f (p.1.map Arg.toRo) r])))
   ((eJ (cI p.1) p.2 r.outs).bind fun _=>M.pure (r.res,[con f (p.1.map Arg.toRo) r]))
 |_=>bad
def lF(md:Md)(c:Call)(f:FuncId)(r:CallO):M Eff:=cond r.plain
 ((gS tt c.args.toList c.argTypes.toList).bind fun p=>match md with
   | .ref=>cond (aW 0 p.1).2.isEmpty (mP con f r p) (match p.2,r.outs with
     | [],[]=>cond (cA p.1) bad ((iG (aW 0 p.1).2 r.lents).bind fun ps=>M.pure (r.res,con f (aW 0 p.1).1 r::ps))
     |_,_=>bad)
   |_=>mP con f r p) bad
def CV.mvOk:CV->Bool
 | .int _ _=>true
 | .bool _=>true
 | .str _=>true
 | .val _=>true
 | .undef=>true
 | .sl .ro _ _=>true
 | .sl .own _ _=>true
 | .sl .tip _ _=>true
 |_=>false
def CV.isMv:CV->Bool
 | .sl .own _ _=>true
 | .sl .tip _ _=>true
 |_=>false
def AV.hasMv:AV->Bool
 | .v _ cs=>cs.any CV.isMv
 |_=>false
def AV.mvOk:AV->Bool
 | .v _ cs=>cs.all CV.mvOk
 |_=>false
def CV.toTip:CV->CV
 | .sl .own T xs=> .sl .tip T xs
 |c=>c
def pQ(tt:TT)(ty:TypeId):Operand->M Bool
 | .tmp t=>(cD (2*t)).bind fun a=>M.pure a.hasMv
 | .const v=>M.pure (gV tt ty v).hasMv
 |_=>M.pure false
def mD(tt:TT):List Operand->List TypeId->M (List (Option AV))
 | [],_=>M.pure []
 |x::xs,tys=>(mD tt xs (tys.drop 1)).bind fun r=>(pQ tt (tys.headD 0) x).bind fun q=>
  cond q ((opd tt .take (tys.headD 0) x).bind fun b=>cond b.mvOk (M.pure (some (b.mapC CV.toTip)::r)) bad) (M.pure (none::r))
def dG:List Arg->List (Option AV)->List Arg
 |a::as,some b::ms=> .val b::dG as ms
 |a::as,none::ms=>a.toRo::dG as ms
 |as,_=>as.map Arg.toRo
def iI:List Arg->List (Option AV)->Bool
 | .box _::_,some _::_=>false
 |_::as,_::ms=>iI as ms
 |_,_=>true
def mE(c:Call)(f:FuncId)(r:CallO):M Eff:=
 (mD tt c.args.toList c.argTypes.toList).bind fun ms=>(gS tt c.args.toList c.argTypes.toList).bind fun p=>
   cond (ms.all Option.isNone) (mP con f r p) (cond (aR p.1|| !iI p.1 ms) bad (match r.lents with
    | []=>(eJ false p.2 r.outs).bind fun _=>(bQ aC .none).bind fun _=>M.pure (r.res,[con f (dG p.1 ms) r])
    |_=>bad))
def nW(md:Md)(c:Call)(f:FuncId)(r:CallO):M Eff:=
 match md with
 | .take=>cond r.plain (mE tt con c f r) bad
 |_=>lF tt con md c f r
def gU(tt:TT):List Operand->List TypeId->M (List Arg×List (Option Nat))
 | [],_=>M.pure ([],[])
 |x::xs,tys=>(gU tt xs (tys.drop 1)).bind fun p=>(opd tt .cp (tys.headD 0) x).bind fun a=>match a with
  | .v false [.ptr s 0]=>(dC s).bind fun cs=>M.pure (.box cs::p.1,some s::p.2)
  | .v g cs=>M.pure (.val (.v g cs)::p.1,none::p.2)
  |_=>bad
def lH:List Nat->M (List Arg×List (Option Nat))
 | []=>M.pure ([],[])
 |s::ss=>(lH ss).bind fun p=>(dC s).bind fun cs=>M.pure (.box cs::p.1,some s::p.2)
def CV.caught:CV->List Nat
 | .clo _ ss=>ss
 | .swp _ _ _ s=> [s]
 |_=> []
def Arg.caught:Arg->List Nat
 | .val (.v _ cs)=>cs.flatMap CV.caught
 | .box cs=>cs.flatMap CV.caught
 |_=> []
def nK:List Nat->List Nat->List Nat
 |acc,[]=>acc
 |acc,s::r=>nK (cond (acc.contains s) acc (acc++ [s])) r
def dV:Nat->List (Option Nat)->List (Nat×Nat)
 |_,[]=> []
 |i,none::r=>dV (i+1) r
 |i,some s::r=>(s,i)::dV (i+1) r
def gi(i:Nat):Nat:=1000000+i
def fU:Nat->List Nat->List (Nat×Nat)
 |_,[]=> []
 |i,s::r=>(s,gi i)::fU (i+1) r
def lW:List Nat->M (List Arg)
 | []=>M.pure []
 |s::ss=>(lW ss).bind fun p=>(dC s).bind fun cs=>M.pure (.gbox cs::p)
def eL(L:List (Nat×Nat)):List Nat->Option (List Nat)
 | []=>some []
 |s::r=>match aN L s,eL L r with
  |some i,some is=>some (i::is)
  |_,_=>none
def CV.ren(L:List (Nat×Nat)):CV->CV
 | .clo k ss=>match eL L ss with
   |some is=> .clo k is
   |none=> .undef
 | .swp sf n h s=>match aN L s with
   |some i=> .swp sf n h i
   |none=> .undef
 |c=>c
def CV.isClo:CV->Bool
 | .clo _ _=>true
 | .swp _ _ _ _=>true
 |_=>false
def CV.toRoC(L:List (Nat×Nat))(c:CV):CV:=cond c.isClo (c.ren L) c.toRo
def CV.toBxC(L:List (Nat×Nat))(c:CV):CV:=cond c.isClo (c.ren L) (match c with
 | .sl (.lnt n) T xs=> .sl (.lnt n) T xs
 |c=>c.toBx)
def Arg.toC(L:List (Nat×Nat)):Arg->Arg
 | .val a=> .val (a.mapC (CV.toRoC L))
 | .box cs=> .box (cs.map (CV.toBxC L))
 | .gbox cs=> .gbox (cs.map (CV.toBxC L))
def CV.plainC:CV->Bool
 | .sl (.lnt _) _ _=>true
 |c=>c.plain||c.isClo
def mQ(L:List (Nat×Nat)):List Nat->List (List CV)->M Unit
 | [],[]=>M.pure ()
 |s::ss,o::os=>(mQ L ss os).bind fun _=>bQ (2*s+1) (.v true (o.map (CV.ren L)))
 |_,_=>bad
def eX(L:List (Nat×Nat)):List (Nat×Nat):=L.map fun x=>(x.2,x.1)
def kD(as:List Arg)(ks:List (Option Nat)):List Nat:=(nK (dV 0 ks).unzip.1 (as.flatMap Arg.caught)).drop (dV 0 ks).length
def lOf(as:List Arg)(ks:List (Option Nat)):List (Nat×Nat):=dV 0 ks++fU as.length (kD as ks)
def jK(f:FuncId)(r:CallO)(as:List Arg)(ks:List (Option Nat)):M Eff:=
 (lW (kD as ks)).bind fun ga=>cond (aR (as++ga)|| !(r.res.plain&&r.outs.all (·.all CV.plainC)&&bA (lOf as ks).unzip.1&&bA (lOf as ks).unzip.2)) bad
   ((mQ (eX (lOf as ks)) (lOf as ks).unzip.1 r.outs).bind fun _=>(bQ aC .none).bind fun _=>M.pure (r.res,[con f ((as++ga).map (Arg.toC (lOf as ks))) ⟨r.res,r.outs,[]⟩]))
def oB(c:Call)(f:FuncId)(r:CallO):M Eff:=(gU tt c.args.toList c.argTypes.toList).bind fun p=>jK con f r p.1 p.2
def rI(f:FuncId)(r:CallO)(q:Prop)(as:List Arg):M Eff:=(iG (aW 0 as).2 r.lents).bind fun ps=>M.pure (r.res,con f (aW 0 as).1 ⟨r.res,[],r.lents⟩::q::ps)
def m8(c:Call)(t:Nat)(r:CallO):M Eff:=(cD (2*t)).bind fun a=>match a with
 | .v false [.clo k ss]=>(gU tt c.args.toList c.argTypes.toList).bind fun p=>(lH ss).bind fun q=>jK con k r (p.1++q.1) (p.2++q.2)
 | .v false [.swp sf n h s]=>cond r.plain ((gU tt c.args.toList c.argTypes.toList).bind fun p=>(dC s).bind fun cs=>match cs with
   | .sl (.lnt m) T xs::_=>cond (m.beq n&& !cA p.1) (rI con sf r (2<=xs.length) (p.1++ [.val (.v false [.sl (.al (2*s+1) 0 []) T xs]),.val (.v false [.val h])])) bad
   |_=>bad) bad
 |_=>bad
def mJ(dst:Option Nat)(c:Call)(f:FuncId)(r:CallO)(cs:List CV):M Eff:=
 match dst,r.outs,r.lents with
 |some d,[],[]=>cond (cs.all CV.plain) ((gS tt c.args.toList c.argTypes.toList).bind fun p=>match p.2 with
  | []=>(cD (2*d+1)).bind fun a=>match a with
    | .none=>(bQ (2*d+1) (.v true (cond (aR p.1) (cs.map CV.rob) cs))).bind fun _=>M.pure (.v false [.ptr d 0],[con f (p.1.map Arg.toRo) r])
    |_=>bad
  |_=>bad) bad
 |_,_,_=>bad
def kG(k c:Nat)(p:List (Nat×Nat))(i:Nat)(T:Ty)(off:Nat)(vs:List CV):M Eff:=
 (nB k c p (eQ T i off vs)).bind fun _=>(bQ aC .none).bind fun _=>cB .none
def lO(k c:Nat)(p:List (Nat×Nat))(i:Nat)(T:Ty)(off:Nat)(vs:List CV):M Eff:=
 match vs with
 | [.apd k' c' p' U xs]=>(kG k c p i T off [.sl .own U xs]).bind fun r=>M.pure (r.1,[k' =k/\c' =c/\p' =p++ [(i,off)]])
 |_=>kG k c p i T off (vs.map CV.noAl)
def TI.isSlice(i:TI):Bool:=match i.elem with |some _=>true|none=>false
def TI.isOf(i:TI)(T:Ty):Bool:=match i.elem with |some (_,U)=>decide (U=T) |none=>false
def pG(i:TI)(c:CV):M Eff:=
 match c with
 | .str s=>cond i.isStr (aH (.int .i64 (s.length:Int))) bad
 | .sl _ _ xs=>cond i.isSlice (aH (.int .i64 (xs.length:Int))) bad
 |_=>bad
def l9(tt:TT)(t:TypeId)(x:Operand):M Eff:=match tt.get t with
 |some i=>(opc tt t x).bind fun c=>pG i c
 |none=>bad
def gO(i j:TI)(a b:CV):Bool:=
 (match a with | .sl _ T _=>i.isOf T|_=>false)&&(match b with | .sl _ _ _=>j.isSlice| .str _=>j.isStr|_=>false)
def oD(i j:TI)(c:CV):M Eff:=
 match c with
 | .int _ n=>match j.ik with
   |some k' =>aH (.int k' (k'.wrap n))
   |none=>bad
 | .sl _ .byte xs=>match i.elem with
   |some (_,.byte)=>cond j.isStr (aH (.str (xs.map fun n=>UInt8.ofNat n.toNat))) bad
   |_=>bad
 | .str s=>match j.elem with
   |some (_,.byte)=>cond i.isStr (aH (.sl .own .byte (s.map fun c=>(c.toNat:Int))) [s.length<=Lim]) bad
   |_=>bad
 |_=>bad
def fnNil:CV->CV->Option Bool
 | .clo _ _,.val .nilFunc=>some false
 | .val .nilFunc,.val .nilFunc=>some true
 |_,_=>none
def lE(op:BinOp)(t:TypeId)(a b:AV):M Eff:=
 match a,b with
 | .v false [.bool x],.v false [.bool y]=>match tt.get t with
   |some i=>cond i.isBool (match op with
    | .eql=>aH (.bool (x==y))
    | .neq=>aH (.bool (!(x==y)))
    |_=>bad) bad
   |none=>bad
 | .v false [a],.v false [b]=>match fnNil a b with
   |some r=>match tt.get t with
    |some i=>cond i.isFn (match op with
     | .eql=>aH (.bool r)
     | .neq=>aH (.bool (!r))
     |_=>bad) bad
    |none=>bad
   |none=>(ofO (eS op a b)).bind fun r=>aH r.1 r.2
 | .v true as,.v true bs=>match tt.get t,bZ as bs with
   |some i,some r=>cond (i.same&&gC i.zero as&&gC i.zero bs) (match op with
    | .eql=>aH (.bool r)
    | .neq=>aH (.bool (!r))
    |_=>bad) bad
   |_,_=>bad
 |_,_=>bad
def gG(i:TI):CV->Bool
 | .str _=>i.isStr
 | .sl _ T _=>i.isOf T
 |_=>false
def kO(tt:TT):Option Operand->M (Option CV)
 |some y=>(opc tt 0 y).bind fun c=>M.pure (some c)
 |none=>M.pure none
def lY(a ix:CV):M Eff:=
 match a,ix with
 | .sl (.al k c p) T xs,.int _ i=>aH (.eref k c p i.toNat T (xs.getD i.toNat T.dflt) 0) [0<=i/\i<xs.length]
 | .sl .ro T xs,.int _ i=>aH (.eptr .ro T (xs.getD i.toNat T.dflt) 0) [0<=i/\i<xs.length]
 | .sl .bor T xs,.int _ i=>aH (.eptr .bor T (xs.getD i.toNat T.dflt) 0) [0<=i/\i<xs.length]
 |_,_=>bad
def jB:List Operand->M (List Nat)
 | []=>M.pure []
 |x::xs=>(opc tt 0 x).bind fun c=>match c with
  | .ptr s 0=>(jB xs).bind fun ss=>M.pure (s::ss)
  |_=>bad
def f7(md:Md)(o:Oper)(dc:List (Nat×Bool))(orc:Option CallO):M Eff:=
 match o.op with
 | .move x=>(opd tt md o.type x).bind cB
 | .assign x=>(opd tt .take o.type x).bind cB
 | .pick c a b=>match c with
   | .tmp t=>(cD (2*t)).bind fun y=>match y with
     | .v false [.bool _]=>match fP dc t with
       |some true=>(opd tt .take o.type a).bind cB
       |some false=>(opd tt .take o.type b).bind cB
       |none=>bad
     |_=>bad
   |_=>bad
 | .alloc t=>match tt.get t,o.dst with
   |some i,some d=>match i.zero with
    |some z=>(cD (2*d+1)).bind fun a=>match a with
     | .none=>(bQ (2*d+1) (.v true z)).bind fun _=>aH (.ptr d 0)
     |_=>bad
    |none=>bad
   |_,_=>bad
 | .box t x=>match tt.get t,o.dst with
   |some _,some d=>(kN tt t x).bind fun cs=>(cD (2*d+1)).bind fun a=>match a with
    | .none=>(bQ (2*d+1) (.v true cs)).bind fun _=>aH (.ptr d 0)
    |_=>bad
   |_,_=>bad
 | .build t ps=>match tt.get t with
   |some i=>match i.zero with
    |some z=>cond i.agg ((fD tt 0 (fun f=>match i.offs[f]?,i.fsz[f]? with |some p,some n=>some (p,n) |_,_=>none) ps.toList z).bind fun cs=>cB (.v true cs)) bad
    |none=>bad
   |none=>bad
 | .buildSlice t n ps=>match tt.get t with
   |some i=>match i.elem with
    |some (e,T)=>match tt.get e with
     |some _=>cond (n.ble 1000) ((fD tt e (fun k=>some (k*T.sz,T.sz)) ps.toList (List.replicate n (T.enc .own T.dflt)).flatten).bind fun cs=>
      (ofO (eO T n cs)).bind fun r=>aH (.sl (if r.2= .own then .own else .tip) T r.1)) bad
     |none=>bad
    |none=>bad
   |none=>bad
 | .load t a=>match tt.get t with
   |some i=>(opc tt 0 a).bind fun c=>match c with
    | .ptr s off=>mB md i s off
    | .eptr f T x off=>cond ((off+i.sz).ble T.sz) (cB (.v i.agg (((T.enc f x).drop off).take i.sz))) bad
    | .eref k c p n T x off=>cond ((off+i.sz).ble T.sz) (match md with
      | .cp=>cB (.v i.agg (((T.enc .bor x).drop off).take i.sz))
      | .ref=>cB (.v i.agg (((eB k c p n 0 (T.enc .own x)).drop off).take i.sz))
      |_=>bad) bad
    |_=>bad
   |none=>bad
 | .store t a x=>match tt.get t with
   |some i=>(mO tt t x).bind fun vs=>(opc tt 0 a).bind fun c=>cond (vs.length.beq i.sz) (match c with
    | .ptr s off=>rD s off (vs.map CV.noAl)
    | .eref k c p j T _ off=>lO k c p j T off vs
    |_=>bad) bad
   |none=>bad
 | .nilCheck x=>(opc tt o.type x).bind fun c=>match c with
   | .ptr s off=>aH (.ptr s off)
   |_=>bad
 | .makeFunc fn first caps=>match fn with
   | .func k=>cond first.toList.isEmpty ((jB tt caps.toList).bind fun ss=>aH (.clo k ss)) bad
   |_=>bad
 | .binOp op t x y _=>(opd tt .cp t x).bind fun a=>(opd tt .cp t y).bind fun b=>lE tt op t a b
 | .unOp op _ x=>(opc tt 0 x).bind fun c=>match op,c with
   | .not,.bool b=>aH (.bool (!b))
   | .neg,.int k n=>aH (.int k (k.wrap (0 - n)))
   |_,_=>bad
 | .convert s d x=>match tt.get s,tt.get d with
   |some i,some j=>(opc tt s x).bind fun c=>oD i j c
   |_,_=>bad
 | .makeSlice t l c=>match tt.get t with
   |some i=>match i.elem with
    |some (_,T)=>(opc tt 0 l).bind fun a=>(opc tt 0 c).bind fun b=>match a,b with
     | .int .i64 n,.int .i64 m=>aH (.sl .own T (List.replicate n.toNat T.dflt)) [0<=n/\n=m/\n<=Lim]
     |_,_=>bad
    |none=>bad
   |none=>bad
 | .slice t x lo hi mx=>match mx,tt.get t with
   |none,some i=>match md with
    | .take=>match lo,hi with
      |none,some y=>(opd tt .take t x).bind fun p=>(fZ p).bind fun c=>(opc tt 0 y).bind fun h=>cond (gG i c) (match c,h with
       | .sl .own T xs,.int _ n=>cond T.flat ((bQ aC .none).bind fun _=>aH (.sl .own T (xs.take n.toNat)) [0<=n/\n<=xs.length]) bad
       |_,_=>bad) bad
      |_,_=>bad
    |_=>(opc tt t x).bind fun c=>(kO tt lo).bind fun l=>(kO tt hi).bind fun h=>cond (gG i c) ((ofO (mY c l h)).bind fun r=>aH r.1 r.2) bad
   |_,_=>bad
 | .fieldAddr t x f=>match tt.get t with
   |some i=>match i.offs[f]? with
    |some p=>(opc tt 0 x).bind fun c=>match c with
     | .ptr s off=>aH (.ptr s (off+p))
     | .eptr g T y off=>aH (.eptr g T y (off+p))
     | .eref k c q j T y off=>aH (.eref k c q j T y (off+p))
     |_=>bad
    |none=>bad
   |none=>bad
 | .indexAddr t x ix=>match tt.get t with
   |some i=>(opc tt t x).bind fun a=>(opc tt 0 ix).bind fun b=>cond (gG i a) (lY a b) bad
   |none=>bad
 | .index t x ix=>match tt.get t with
   |some j=>cond j.isStr ((opc tt 0 x).bind fun a=>(opc tt 0 ix).bind fun b=>match a,b with
    | .str s,.int _ i=>aH (.int .u8 ((s.getD i.toNat 0).toNat:Int)) [0<=i/\i<s.length]
    |_,_=>bad) bad
   |none=>bad
 | .field t x f=>match x with
   | .tmp k=>(cD (2*k)).bind fun a=>match a,tt.get t with
     | .v true cs,some i=>match i.offs[f]?,i.fsz[f]? with
       |some p,some n=>cond ((p+n).ble cs.length) (cB (.v (!n.beq 1) (((cs.drop p).take n).map CV.cp))) bad
       |_,_=>bad
     |_,_=>bad
   |_=>bad
 | .extract x i=>match x with
   | .tmp t=>(cD (2*t)).bind fun a=>match a with
     | .tup ys=>match md with
       | .ref=>match ys[i]? with
         |some x=>cB (.v x.1 (x.2.map CV.cp))
         |none=>bad
       |_=>
        let xs:=ys.map fun x=>(x.1,x.2.map CV.noAl)
        match xs[i]? with
        |some x=>(bQ (2*t) (.tup (xs.set i (x.1,x.2.map CV.left)))).bind fun _=>cB (.v x.1 x.2)
        |none=>bad
     |_=>bad
   |_=>bad
 | .call c=>match c.callee with
   | .builtin .len=>match c.args.toList,c.argTypes.toList with
     | [x],[t]=>l9 tt t x
     |_,_=>bad
   | .builtin .append=>match c.args.toList,c.argTypes.toList with
     | [x,y],[t0,t1]=>match tt.get t0,tt.get t1 with
       |some i,some j=>(opd tt .take t0 x).bind fun p=>(fZ p).bind fun a=>(opd tt (match md with | .take=> .take|_=> .cp) t1 y).bind fun q=>(fZ q).bind fun b=>
        cond (gO i j a b) (match k9 a b with
         |some r=>(match md with | .take=>bad|_=>(bQ aC .none).bind fun _=>aH r.1 r.2)
         |none=>(ofO (lA a b)).bind fun r=>aH r.1 r.2) bad
       |_,_=>bad
     |_,_=>bad
   | .builtin .min=>match c.args.toList with
     | [x,y]=>(opc tt 0 x).bind fun a=>(opc tt 0 y).bind fun b=>match a,b with
       | .int k a,.int _ b=>aH (.int k (if b<a then b else a))
       |_,_=>bad
     |_=>bad
   | .builtin .max=>match c.args.toList with
     | [x,y]=>(opc tt 0 x).bind fun a=>(opc tt 0 y).bind fun b=>match a,b with
       | .int k a,.int _ b=>aH (.int k (if b>a then b else a))
       |_,_=>bad
     |_=>bad
   | .value (.func f)=>match orc with
     |some r=>match r.lents with
      | [.clo _ _]=>oB tt con c f r
      |_=>match r.res.nbox with
       |some cs=>mJ tt con o.dst c f r cs
       |none=>nW tt con md c f r
     |none=>bad
   | .value (.tmp t)=>match orc with
     |some r=>m8 tt con c t r
     |none=>bad
   |_=>bad
 |_=>bad
structure RS where
 σ:St
 bs:List Bool
 cs:List CallO
 ob:List Prop
def dF(o:Oper):Bool:=
 match o.op with
 | .call c=>match c.callee with | .value _=>true|_=>false
 |_=>false
def jZ(o:Oper):Md->CV->CV
 | .take=>cond (dF o) CV.em CV.fz
 |_=>CV.fz
def wV(md:Md×Bool)(o:Oper):Md:=cond (md.2&&dF o) (match md.1 with | .take=> .cp|m=>m) md.1
def kM(md:Md×Bool)(o:Oper)(dc:List (Nat×Bool))(orc:Option CallO):M Eff:=
 (f7 tt con (wV md o) o dc orc).bind fun e=>M.pure (cond md.2 (e.1.mapC (jZ o md.1)) e.1,e.2)
def bU:List (Nat×Md×Bool)->Nat->Md×Bool
 | [],_=>(.cp,false)
 |(k,m)::r,q=>cond (k.beq q) m (bU r q)
def dW(ops:Array Oper)(o:Oper):Option (Option (Nat×Bool)):=
 match o.guard with
 |none=>some none
 |some (j,want)=>match(ops[j]?).bind (·.dst) with
  |some t=>some (some (t,want))
  |none=>none
def opM(md:Md×Bool)(o:Oper)(g:Option (Nat×Bool))(dc:List (Nat×Bool))(orc:Option CallO):M (Option Eff):=
 match g with
 |none=>(kM tt con md o dc orc).bind fun e=>M.pure (some e)
 |some (t,want)=>(cD (2*t)).bind fun a=>match a with
  | .v false [.bool _]=>match fP dc t with
    |some b=>cond (b==want) ((kM tt con md o dc orc).bind fun e=>M.pure (some e)) (M.pure none)
    |none=>bad
  | .tup []=>M.pure none
  |_=>bad
def dL(nt:Nat)(gs:List Nat)(o:Oper)(dc:List (Nat×Bool))(r:RS):Option Eff×Ups->Option (List (Nat×Bool)×RS×Ups)
 |(none,_)=>match o.dst with
  |some d=>cond (d.blt nt&&dc.all fun y=> !(d.beq y.1)) (some (dc,⟨(2*d,.tup [])::r.σ,r.bs,r.cs,r.ob⟩,[(2*d,.tup [])])) none
  |none=>some (dc,r,[])
 |(some (v,owed),ups)=>cond (ups.all fun x=>dc.all fun y=> !(x.1.beq (2*y.1)))
  (match o.dst with
  |some d=>cond (d.blt nt&&dc.all fun y=> !(d.beq y.1)) (cond (gs.contains d)
    (match v,r.bs with
     | .v false [.bool b],lit::bs=>some ((d,lit)::dc,⟨((2*d,v.mapC (CV.stale [2*d] false))::ups)++r.σ,bs,cond (dF o) r.cs.tail r.cs,(b=lit)::(owed.reverse++r.ob)⟩,(2*d,v.mapC (CV.stale [2*d] false))::ups)
     |_,_=>none)
    (some (dc,⟨((2*d,v.mapC (CV.stale [2*d] false))::ups)++r.σ,r.bs,cond (dF o) r.cs.tail r.cs,owed.reverse++r.ob⟩,(2*d,v.mapC (CV.stale [2*d] false))::ups))) none
  |none=>some (dc,⟨ups++r.σ,r.bs,cond (dF o) r.cs.tail r.cs,owed.reverse++r.ob⟩,ups)) none
def cQ(o:Oper)(r:RS):Option CallO:=cond (dF o) r.cs.head? none
def eK(nt:Nat)(ms:List (Nat×Md×Bool))(ops:Array Oper)(gs:List Nat):List Oper->Nat->List (Nat×Bool)->RS->Option RS
 | [],_,_,r=>some r
 |o::rest,i,dc,r=>match dW ops o with
  |some g=>match(opM tt con (bU ms i) o g dc (cQ o r) []).run r.σ.get with
   |some e=>match dL nt gs o dc r e with
    |some q=>eK nt ms ops gs rest (i+1) q.1 q.2.1
    |none=>none
   |none=>none
  |none=>none
def cW(ops:Array Oper)(ah:List Nat)(dc:List (Nat×Bool)):List (Nat×Bool):=
 dc.filter fun y=>ah.any fun j=>match(ops[j]?).bind (·.dst) with
  |some d=>d.beq y.1
  |none=>false
def f8(nt:Nat)(ms:List (Nat×Md×Bool))(ops:Array Oper)(gs:List Nat)(ah:List (List Nat)):List Oper->Nat->List (Nat×Bool)->RS->Option (RS×List (List Nat×Ups×List (Nat×Bool)))
 | [],_,_,r=>some (r,[])
 |o::rest,i,dc,r=>match dW ops o with
  |some g=>match(opM tt con (bU ms i) o g (cW ops ((ah[i]?).getD []) dc) (cQ o r) []).run r.σ.get with
   |some e=>match dL nt gs o (cW ops ((ah[i]?).getD []) dc) r e with
    |some q=>match f8 nt ms ops gs ah rest (i+1) (q.1.take (q.1.length - (cW ops ((ah[i]?).getD []) dc).length)++dc) q.2.1 with
     |some (r',l)=>some (r',((opM tt con (bU ms i) o g (cW ops ((ah[i]?).getD []) dc) (cQ o r) []).log r.σ.get,q.2.2,q.1.take (q.1.length - (cW ops ((ah[i]?).getD []) dc).length))::l)
     |none=>none
    |none=>none
   |none=>none
  |none=>none
def dA:List Oper->List (List Nat)->List (List Nat)
 | [],ps=>ps
 |o::r,ps=>dA r (ps++ [(List.range ps.length).filter fun j=>o.after.toList.any fun e=>Region.binds .any e&&(e.on.beq j||((ps[e.on]?).getD []).contains j)])
def b9(ops:List Oper):List (List Nat):=dA ops []
def gW(xs ys:List Nat):Bool:=xs.all fun x=> !ys.contains x
abbrev Log:=List Nat×Ups×List (Nat×Bool)
def Log.keys(x:Log):List Nat:=x.2.1.map (·.1)
def AV.mute(ks:List Nat)(a:AV):Bool:=
 match a with
 | .v _ cs=>cs.all fun c=> !(c.onKey ks||(ks.contains aC&&c.isBor))
 | .tup xs=>xs.all fun x=>x.2.all fun c=> !(c.onKey ks||(ks.contains aC&&c.isBor))
 | .none=>true
def fC(ah:List (List Nat))(n:Nat):List (Nat×Nat):=
 (List.range n).flatMap fun j=>((List.range j).filter fun i=> !((ah[j]?).getD []).contains i).map fun i=>(i,j)
def aZ(l:List Log)(i:Nat):Log:=(l[i]?).getD ([],[],[])
def qD(l:List Log)(ps:List (Nat×Nat)):List Nat:=ps.flatMap fun p=>(aZ l p.1).keys++(aZ l p.2).keys
def qC(ps:List (Nat×Nat)):List Nat:=ps.flatMap fun p=> [p.1,p.2]
def flat(blk:Nat->Ups)(ord:List Nat):Ups:=(ord.map blk).flatten
def aM(lg:List Log)(j:Nat):Ups:=(aZ lg j).2.1
def rdL(l:List Log)(i:Nat):List Nat:=(aZ l i).1
def dJ(ops:Array Oper)(gs:List Nat)(rd:Nat->List Nat)(l:List Log)(σ:St):Bool:=
 let ah:=b9 ops.toList
 let ps:=fC ah ops.size
 ps.all (fun p=>gW (aZ l p.1).keys (aZ l p.2).keys&&gW (rd p.1) (aZ l p.2).keys&&gW (rd p.2) (aZ l p.1).keys)&&σ.all (fun x=>x.2.mute (qD l ps))&&(List.range ops.size).all (fun i=>(qC ps).all fun j=>Nat.beq i j||(aZ l i).2.1.all fun y=>y.2.mute (aZ l j).keys)&&
  ops.toList.zipIdx.all (fun x=>x.1.after.all fun e=> !Region.binds .any e||Nat.blt e.on x.2)&&
  (List.range ops.size).all (fun i=>match(ops[i]?).bind (·.dst) with
    |some d=>cond (gs.contains d) ((List.range ops.size).all fun j=>Nat.beq i j|| !(aZ l j).keys.contains (2*d)) true
    |none=>true)
def oH(l:List Log):List (Nat×Nat)->Option (Nat×Nat×Nat)
 | []=>none
 |p::ps=>match(rdL l p.1).find? fun k=>(aZ l p.2).keys.contains k with
  |some k=>some (p.1,p.2,k)
  |none=>match(rdL l p.2).find? fun k=>(aZ l p.1).keys.contains k with
   |some k=>some (p.2,p.1,k)
   |none=>oH l ps
def exV(k:Nat)(g:Nat->AV)(v:AV):Nat->AV:=fun q=>cond (q.beq k) v (g q)
def jX(L:List Nat)(l:List Log)(i k:Nat)(x:Nat):List Nat:=cond (x.beq i) (L.filter fun q=> !q.beq k) (rdL l x)
def mX:Option (Option Eff×Ups)->Option (Option Eff×Ups)->Option Prop
 |some (some (.v false [.int k n],[]),[]),some (some (.v false [.int k' m],[]),[])=>if k=k' then some (n=m) else none
 |_,_=>none
def lQ(ops:Array Oper)(gs:List Nat)(l:List Log)(σ:St)(i j k:Nat)(t:RT (Option Eff×Ups)):Option (List Prop):=
 cond (dJ ops gs (jX (t.log (exV k (St.get (flat (aM l) (List.range i).reverse++σ)) (σ.get k))++t.log (exV k (St.get (flat (aM l) (List.range i).reverse++σ)) (St.get (aM l j++σ) k))) l i k) l σ&&
  (List.range ops.size).all (fun x=>x.beq j||(!(aZ l x).keys.contains k&&(σ.get k).mute (aZ l x).keys&&(St.get (aM l j++σ) k).mute (aZ l x).keys))&&(aZ l j).keys.contains k)
  ((mX (t.run (exV k (St.get (flat (aM l) (List.range i).reverse++σ)) (σ.get k))) (t.run (exV k (St.get (flat (aM l) (List.range i).reverse++σ)) (St.get (aM l j++σ) k)))).map fun p=> [p]) none
def iB:Op->Bool
 | .load _ _=>true
 |_=>false
def jR(ms:List (Nat×Md×Bool))(ops:Array Oper)(gs:List Nat)(l:List Log)(σ:St):Option (List Prop):=
 cond (dJ ops gs (rdL l) l σ) (some []) (match oH l (fC (b9 ops.toList) ops.size) with
  |some (i,j,k)=>match ops[i]? with
   |some o=>cond (iB o.op&&o.guard.isNone) (lQ ops gs l σ i j k (opM tt con (bU ms i) o none [] none [])) none
   |none=>none
  |none=>none)
def lX(ops:Array Oper):List Nat:=
 ops.toList.filterMap fun o=>o.guard.bind fun g=>(ops[g.1]?).bind (·.dst)
structure Info where
 body:Code
 nt:Nat
 results:List ResultVar
 keep:List Nat
 live:List (Nat×List Nat)
 modes:List (Nat×List (Nat×Md×Bool))
 ext:List Nat:=[]
 lnt:List (Nat×Nat):=[]
 casts:List (Nat×List (Nat×Nat×Bool)):=[]
 fcast:List (Nat×Nat×Bool):=[]
def St.restrict(σ:St):List Nat->St
 | []=> []
 |k::r=>match σ.get k with
  | .none=>St.restrict σ r
  | .v g cs=>(k,.v g cs)::St.restrict σ r
  | .tup xs=>(k,.tup xs)::St.restrict σ r
def fV(σ:St)(s:Nat):Bool:=
 match σ.get (2*s+1) with
 | .v true _=>true
 |_=>false
def CV.ptrOk(σ:St):CV->Bool
 | .ptr s _=>fV σ s
 | .clo _ ss=>ss.all (fV σ)
 |_=>true
def St.wf(σ:St):List (Nat×AV)->Bool
 | []=>true
 |(_,.v _ cs)::r=>cs.all (CV.ptrOk σ)&&St.wf σ r
 |(_,.tup xs)::r=>xs.all (fun x=>x.2.all (CV.ptrOk σ))&&St.wf σ r
 |(_,.none)::r=>St.wf σ r
def iD(ext:List Nat)(σ:St)(ks:List Nat):Option St:=
 cond (St.wf (σ.restrict ks) (σ.restrict ks)&&ext.all (fV (σ.restrict ks))) (some (σ.restrict ks)) none
def CV.cast(b:Bool):CV->CV
 | .sl .own T xs=> .sl (cond b .ro .tip) T xs
 | .sl .tip T xs=> .sl (cond b .ro .tip) T xs
 | .sl (.lnt _) _ _=> .undef
 |c=>c
def castAt(b:Bool):Nat->List CV->List CV
 |_,[]=> []
 |0,x::r=>x.cast b::r
 |c+1,x::r=>x::castAt b c r
def AV.castAt(c:Nat)(b:Bool):AV->AV
 | .v g cs=> .v g (Ab.castAt b c cs)
 |_=> .none
def jH:List (Nat×Nat×Bool)->St->St
 | [],σ=>σ
 |z::r,σ=>jH r (σ.map fun x=>(x.1,(cond (x.1.beq z.1) (x.2.castAt z.2.1 z.2.2) x.2).mapC CV.noAl))
inductive Res where
 |stop (stk:List Item) (σ:St) (ob:List Prop)
 |done (r:CallO) (ob:List Prop)
def fF(tt:TT)(σ:St):List ResultVar->Option (List (Nat×Bool×List CV))
 | []=>some []
 | .tmp t::r=>match σ.get (2*t),fF tt σ r with
   | .v g cs,some xs=>some ((2*t,g,cs)::xs)
   |_,_=>none
 | .cell a t::r=>match σ.get (2*a),tt.get t,fF tt σ r with
   | .v false [.ptr s 0],some i,some xs=>match σ.get (2*s+1) with
     | .v true cs=>cond (cs.length.beq i.sz) (some ((2*s+1,i.agg,cs)::xs)) none
     |_=>none
   |_,_,_=>none
def iM(σ:St):List Nat->Option (List (List CV))
 | []=>some []
 |s::r=>match σ.get (2*s+1),iM σ r with
  | .v true cs,some o=>some (cs::o)
  |_,_=>none
def iH(σ:St):Nat->List (Nat×Nat)->Option (List CV)
 |_,[]=>some []
 |n,(k,c)::r=>match σ.get k,iH σ (n+1) r with
  | .v g cs,some o=>match cs[c]? with
    |some (.sl (.lnt m) T xs)=>cond (m.beq n&&(g||(k % 2).beq 0)) (some (.sl (.lnt m) T xs::o)) none
    |_=>none
  |_,_=>none
def iO:List (Nat×Bool×List CV)->AV
 | [x]=> .v x.2.1 x.2.2
 |xs=> .tup (xs.map fun x=>x.2)
def gX(xs:List (Nat×Bool×List CV))(ext:List Nat):List Nat:=(xs.map fun x=>x.1)++ext.map fun s=>2*s+1
def fR(tt:TT)(I:Info)(r:RS):Option Res:=
 match r.bs,r.cs,fF tt r.σ I.results,iM r.σ I.ext,iH r.σ 0 I.lnt with
 | [],[],some xs,some outs,some ls=>
   cond (bA (gX xs I.ext)&&I.lnt.all (fun p=> !(gX xs I.ext).contains p.1)&&
    xs.all (fun x=>x.2.2.all CV.plain)&&outs.all (fun o=>o.all CV.plainC))
    (some (.done ⟨iO xs,outs,ls⟩ r.ob.reverse)) none
 |_,_,_,_,_=>none
def jY(I:Info)(σ:St):Option (List CV):=
 match I.results,I.ext,I.lnt with
 | [.tmp t],[],[]=>match σ.get (2*t) with
   | .v false [.ptr s 0]=>match σ.get (2*s+1) with
     | .v true cs=>cond (cs.all CV.plain) (some cs) none
     |_=>none
   |_=>none
 |_,_,_=>none
def lU(tt:TT)(I:Info)(r:RS):Option Res:=match jY I r.σ with
 |some cs=>match r.bs,r.cs with
  | [],[]=>some (.done ⟨.tup [(false,[.ptr 0 0]),(true,cs)],[],[]⟩ r.ob.reverse)
  |_,_=>none
 |none=>fR tt I r
def fin(tt:TT)(I:Info)(r:RS):Option Res:=lU tt I ⟨jH I.fcast r.σ,r.bs,r.cs,r.ob⟩
def run(I:Info):Nat->Bool->List Item->RS->Option Res
 |0,_,_,_=>none
 |_+1,_,[],r=>fin tt I r
 |n+1,first,.code c::k,r=>match c with
  | .skip=>run I n first k r
  | .seq a b=>run I n first (.code a:: .code b::k) r
  | .cond x a b=>match(opc tt 0 x []).run r.σ.get,r.bs with
    |some (.bool v,_),lit::bs=>run I n false (.code (cond lit a b)::k) ⟨r.σ,bs,r.cs,(v=lit)::r.ob⟩
    |_,_=>none
  | .block id b=>run I n first (.code b:: .inBlock id::k) r
  | .loop b=>run I n first (.code b:: .inLoop b::k) r
  | .exit id=>match exitTo id k with
    |some k' =>run I n first k' r
    |none=>none
  | .ret=>fin tt I r
  | .region id ops draw=>
    match cond first none (aN I.live id) with
    |some ks=>match r.bs,r.cs with
     | [],[]=>match iD I.ext r.σ ks with
       |some σ=>some (.stop (.code (.region id ops draw)::k) (jH ((aN I.casts id).getD []) σ) r.ob.reverse)
       |none=>none
     |_,_=>none
    |none=>cond draw
     (match f8 tt con I.nt ((aN I.modes id).getD []) ops (lX ops) (b9 ops.toList) ops.toList 0 [] r with
       |some (r',l)=>match jR tt con ((aN I.modes id).getD []) ops (lX ops) l r.σ with
        |some ps=>match iD I.ext r'.σ I.keep with
         |some σ=>run I n false k ⟨σ,r'.bs,r'.cs,ps++r'.ob⟩
         |none=>none
        |none=>none
       |none=>none)
     (match eK tt con I.nt ((aN I.modes id).getD []) ops (lX ops) ops.toList 0 [] r with
       |some r' =>match iD I.ext r'.σ I.keep with
        |some σ=>run I n false k ⟨σ,r'.bs,r'.cs,r'.ob⟩
        |none=>none
       |none=>none)
  |_=>none
 |n+1,first,.inBlock _::k,r=>run I n first k r
 |n+1,first,.inLoop b::k,r=>run I n first (.code b:: .inLoop b::k) r
 |_+1,_,_,_=>none
end
def eW(R:Nat):Code->List Item->Option (List Item)
 | .seq a b,k=>(eW R a (.code b::k)).or (eW R b k)
 | .cond _ a b,k=>(eW R a k).or (eW R b k)
 | .block id b,k=>eW R b (.inBlock id::k)
 | .loop b,k=>eW R b (.inLoop b::k)
 | .region id ops d,k=>cond (id.beq R) (some (.code (.region id ops d)::k)) none
 |_,_=>none
def AF(R:Nat)(c:Code):List Item:=(eW R c []).getD []
inductive D where
 |int (k:IntKind) (n:Int)
 |bool (b:Bool)
 |str (s:Str)
 |sl (sz:Nat) (rows:List (List D))
def Rowd.toD(r:Rowd):List D:=[.sl 1 (r.cells.map fun n=> [.int .i64 n]),.sl 2 (r.frm.map fun o=> [.int .i64 o.cell,.int .i64 o.row])]
mutual
def Val.toD:Val->List D
 | .mk k n s t l c r=> [.int .i64 k,.int .i64 n,.int .i64 s,.str t,.sl 7 (Val.toDs l),.sl 1 (c.map fun x=> [.str x]),.sl 2 (r.map Rowd.toD)]
def Val.toDs:List Val->List (List D)
 | []=> []
 |v::r=>Val.toD v::Val.toDs r
end
mutual
def Exp.toD:Exp->List D
 | .mk k n t a=> [.int .i64 k,.int .i64 n,.str t,.sl 4 (Exp.toDs a)]
def Exp.toDs:List Exp->List (List D)
 | []=> []
 |v::r=>Exp.toD v::Exp.toDs r
end
theorem Val.toDs_eq(l:List Val):Val.toDs l=l.map Val.toD:=by
 induction l with
 |nil=>rfl
 |cons a l ih=>grind [Val.toDs]
theorem Exp.toDs_eq(l:List Exp):Exp.toDs l=l.map Exp.toD:=by
 induction l with
 |nil=>rfl
 |cons a l ih=>grind [Exp.toDs]
def Ty.toD:(T:Ty)->T.den->List D
 | .int,n=> [.int .i64 n]
 | .byte,n=> [.int .u8 n]
 | .str,s=> [.str s]
 | .org,o=> [.int .i64 (Org.cell o),.int .i64 (Org.row o)]
 | .row,r=>Rowd.toD r
 | .val,v=>Val.toD v
 | .exp,e=>Exp.toD e
 | .fil,x=> [.str (Fil.name x),.int .i64 (Fil.n x)]
 | .tok,t=> [.int .i64 (Tok.kind t),.int .i64 (Tok.n t),.int .i64 (Tok.pos t),.str (Tok.text t)]
 | .rea,r=> [.int .i64 (Rea.kind r),.int .i64 (Rea.n r),.int .i64 (Rea.time r),.str (Rea.text r)]++Val.toD (Rea.result r)
 | .bnd,b=> .str (Bnd.name b)::Val.toD (Bnd.value b)
 | .cel,c=> [.int .i64 (Cel.id c),.int .i64 (Cel.version c),.int .i64 (Cel.kind c),.str (Cel.name c),.str (Cel.code c),.int .i64 (Cel.n c)]
def CV.toD:CV->D
 | .int k n=> .int k n
 | .bool b=> .bool b
 | .str s=> .str s
 | .sl _ T xs=> .sl T.sz (xs.map T.toD)
 |_=> .bool false
theorem Val.toD_cells(f:Fl)(v:Val):Val.toD v=[.int .i64 v.kind,.int .i64 v.n,.int .i64 v.step,.str v.text,CV.toD (.sl f .val v.list),CV.toD (.sl f .str v.columns),CV.toD (.sl f .row v.rows)]:=by
 cases v with
 |mk k n s t l c r=>simp [Val.toD,Val.toDs_eq,CV.toD,Val.kind,Val.n,Val.step,Val.text,Val.list,Val.columns,Val.rows,Ty.sz];exact⟨fun _ _=>rfl,fun _ _=>rfl,fun _ _=>rfl⟩
theorem Exp.toD_cells(f:Fl)(v:Exp):Exp.toD v=[.int .i64 v.kind,.int .i64 v.n,.str v.text,CV.toD (.sl f .exp v.args)]:=by
 cases v with
 |mk k n t a=>simp [Exp.toD,Exp.toDs_eq,CV.toD,Exp.kind,Exp.n,Exp.text,Exp.args,Ty.sz];exact fun _ _=>rfl
theorem Ty.enc_toD(f:Fl)(T:Ty)(x:T.den):(T.enc f x).map CV.toD=T.toD x:=by
 cases T with
 |row=>rfl
 |val=>simp only [Ty.enc,Ty.toD,List.map];rw [Val.toD_cells f];rfl
 |exp=>simp only [Ty.enc,Ty.toD,List.map];rw [Exp.toD_cells f];rfl
 |rea=>simp only [Ty.enc,Ty.toD,List.map];rw [Val.toD_cells f];rfl
 |bnd=>simp only [Ty.enc,Ty.toD,List.map];rw [Val.toD_cells f];rfl
 |_=>rfl
theorem Ty.enc_length(f:Fl)(T:Ty)(x:T.den):(T.enc f x).length=T.sz:=by cases T <;>rfl
theorem Ty.toD_length(T:Ty)(x:T.den):(T.toD x).length=T.sz:=by
 rw [<-Ty.enc_toD .ro T x,Zm,Ty.enc_length]
theorem Ty.sz_pos(T:Ty):0<T.sz:=by cases T <;>decide
theorem Ty.dec_toD(T:Ty)(cs:List CV)(x:T.den)(h:T.dec cs=some x):T.toD x=cs.map CV.toD:=by
 unfold Ty.dec at h
 split at h <;>first
  |(simp at h;done)
  |(cases h;rfl)
  |(cases h;simp only [Ty.toD,List.map];rw [Val.toD_cells .ro];rfl)
  |(cases h;simp only [Ty.toD,List.map];rw [Exp.toD_cells .ro];rfl)
inductive RdP (w:World):(List (Nat×Nat)->Nat->Nat->Prop)->(List (Nat×Nat)->Value->Nat->Prop)->Value->D->Prop where
 |int {ok q} (k:IntKind) (n:Int):RdP w ok q (.int k n) (.int k n)
 |bool {ok q} (b:Bool):RdP w ok q (.bool b) (.bool b)
 |str {ok q} (s:ByteArray):RdP w ok q (.string s) (.str s.data.toList)
 |nil {ok q} (a:Option Addr) (cap sz:Nat) (hq:q [] (.slice a 0 cap) sz):RdP w ok q (.slice a 0 cap) (.sl sz [])
 |sl {ok q} (b off n cap sz:Nat) (rows:List (List D)) (u:Nat->Nat->Value) (hn:rows.length=n) (hcap:n<=cap) (hr:∀r∈rows,r.length=sz)
   (hq:q [] (.slice (some ⟨b,off,none⟩) n cap) sz)
   (hc:∀i j,i<n->j<sz->w.cell? ⟨b,off+i*sz+j,none⟩=some (u i j)/\ok [] b (off+i*sz+j))
   (hk:∀i j (hi:i<rows.length) (hj:j<rows[i].length),RdP w (fun p=>ok ((i,j)::p)) (fun p=>q ((i,j)::p)) (u i j) (rows[i][j])):
   RdP w ok q (.slice (some ⟨b,off,none⟩) n cap) (.sl sz rows)
theorem RdP.mono{w w' :World}{ok ok' :List (Nat×Nat)->Nat->Nat->Prop}{q q' :List (Nat×Nat)->Value->Nat->Prop}{v:Value}{d:D}
 (h:RdP w ok q v d) (hc:∀p b o,ok p b o->w'.cell? ⟨b,o,none⟩=w.cell? ⟨b,o,none⟩/\ok' p b o) (hq:∀p v sz,q p v sz->q' p v sz):
 RdP w' ok' q' v d:=by
 induction h generalizing ok' q' with
 |int k n=>grind [int]
 |bool b=>grind [bool]
 |str s=>grind [str]
 |nil a cap sz h=>exact .nil a cap sz (hq _ _ _ h)
 |sl b off n cap sz rows u hn hcap hr h0 h1 _ ih=>
  refine .sl b off n cap sz rows u hn hcap hr (hq _ _ _ h0) (fun i j hi hj=> ?_) (fun i j hi hj=> ?_)
  ·grind
  ·exact ih i j hi hj (fun p=>hc _) (fun p=>hq _)
theorem RdP.shape{w:World}{ok:List (Nat×Nat)->Nat->Nat->Prop}{q:List (Nat×Nat)->Value->Nat->Prop}{v:Value}{sz:Nat}{rows:List (List D)}
 (h:RdP w ok q v (.sl sz rows)):∃ad cap,v= .slice ad rows.length cap/\rows.length<=cap:=by
 cases h with
 |nil a cap sz hq=>grind
 |sl b off n cap sz rows u hn hcap=>grind
theorem RdP.cells{w:World}{ok:List (Nat×Nat)->Nat->Nat->Prop}{q:List (Nat×Nat)->Value->Nat->Prop}{v:Value}{sz:Nat}{rows:List (List D)}
 (h:RdP w ok q v (.sl sz rows)) (hne:rows≠ []):∃b off cap,v= .slice (some ⟨b,off,none⟩) rows.length cap/\rows.length<=cap/\(∀r∈rows,r.length=sz)/\q [] v sz/\
   ∃u:Nat->Nat->Value,(∀i j,i<rows.length->j<sz->w.cell? ⟨b,off+i*sz+j,none⟩=some (u i j)/\ok [] b (off+i*sz+j))/\
    ∀i j (hi:i<rows.length) (hj:j<rows[i].length),RdP w (fun p=>ok ((i,j)::p)) (fun p=>q ((i,j)::p)) (u i j) (rows[i][j]):=by
 cases h with
 |nil a cap sz hq=>grind
 |sl b off n cap sz rows u hn hcap hr hq hc hk=>subst hn;exact⟨b,off,cap,rfl,hcap,hr,hq,u,hc,hk⟩
end Go.Ab
end
section
namespace Go.Ab
inductive Pl where
 |k (n:Nat)
 |h (i:Nat)
 deriving DecidableEq
inductive Own where
 |box (s:Nat)
 |arr (k:Pl) (c:Nat) (p:List (Nat×Nat))
 deriving DecidableEq
structure Env where
 w:World
 hw:Nat->Nat
 ow:Nat->Option Own
 bx:Nat->Nat
 hdr:Nat->Value
def okF(E:Env)(k:Pl)(c:Nat):Fl->List (Nat×Nat)->Nat->Nat->Prop
 | .ro=>fun _ b o=>o<E.hw b/\E.ow b=none
 | .bor=>fun _ b o=>o<E.hw b
 | .own=>fun p b o=>o<E.hw b/\E.ow b=some (.arr k c p)
 | .lnt _=>fun p b o=>o<E.hw b/\E.ow b=some (.arr k c p)
 | .tip=>fun p b o=>o<E.hw b/\(p=[]->E.ow b=some (.arr k c p))/\(p≠ []->E.ow b=none)
 | .al k' c' p' =>fun p b o=>o<E.hw b/\E.ow b=some (.arr (.k k') c' (p' ++p))
def Tip(E:Env)(l:Own)(v:Value)(sz:Nat):Prop:=
 match v with
 | .slice (some ⟨b,0,none⟩) n cap=>E.ow b=some l/\E.hw b=n*sz/\n<=cap/\
     ∃cs ty lo hi,E.w.heap[b]? =some (.cells cs ty (lo,hi))/\cap*sz=cs.size/\∀o,lo<=o->o<hi->cap*sz<=o
 | .slice none n cap=>n=0/\cap=0
 |_=>False
def qF(E:Env)(k:Pl)(c:Nat):Fl->List (Nat×Nat)->Value->Nat->Prop
 | .own=>fun p v sz=>Tip E (.arr k c p) v sz
 | .lnt n=>fun p v sz=>Tip E (.arr k c p) v sz/\(p=[]->v=E.hdr n)
 | .tip=>fun p v sz=>p=[]->Tip E (.arr k c p) v sz
 | .al k' c' p' =>fun p v sz=>Tip E (.arr (.k k') c' (p' ++p)) v sz
 |_=>fun _ _ _=>True
def kU(E:Env)(l:Own)(b:Nat)(T:Ty)(xs:List T.den)(cap:Nat):Prop:=
 E.ow b=some l/\xs.length<=cap/\E.hw b<=xs.length*T.sz/\∃cs ty lo hi,E.w.heap[b]? =some (.cells cs ty (lo,hi))/\cap*T.sz=cs.size/\(∀o,lo<=o->o<hi->cap*T.sz<=o)/\
  ∀i j (hi:i<xs.length) (hj:j<(T.toD xs[i]).length),∃u,cs[i*T.sz+j]? =some u/\∀(w:World) (ok:List (Nat×Nat)->Nat->Nat->Prop) (q:List (Nat×Nat)->Value->Nat->Prop),RdP w ok q u ((T.toD xs[i])[j])
def VRc(E:Env)(bxs:Nat->Prop)(k:Pl)(c:Nat):CV->Value->Prop
 | .int kd n,v=>v= .int kd n
 | .bool b,v=>v= .bool b
 | .str s,v=>∃t:ByteArray,v= .string t/\t.data.toList=s
 | .sl f T xs,v=>RdP E.w (okF E k c f) (qF E k c f) v (.sl T.sz (xs.map T.toD))
 | .ptr s off,v=>v= .pointer (some ⟨E.bx s,off,none⟩)/\bxs s
 | .clo k ss,v=>v= .func (.func k) #[] (ss.map fun s=>Value.pointer (some ⟨E.bx s,0,none⟩)).toArray/\∀s∈ss,bxs s
 | .swp sf n h _,v=>(v.oneCell' =true/\h.oneCell' =true)/\∀ad l cap,E.hdr n= .slice ad l cap->2<=l->v= .func (.func sf) #[] #[E.hdr n,h]
 | .eptr f T x off,v=>(f= .ro\/f= .bor)/\∃b o,v= .pointer (some ⟨b,o+off,none⟩)/\
     ∃u:Nat->Value,∀j (hj:j<(T.toD x).length),E.w.cell? ⟨b,o+j,none⟩=some (u j)/\okF E k c f [] b (o+j)/\
      RdP E.w (fun p=>okF E k c f ((0,j)::p)) (fun p=>qF E k c f ((0,j)::p)) (u j) ((T.toD x)[j])
 | .eref k' c' p i T x off,v=>∃b,v= .pointer (some ⟨b,i*T.sz+off,none⟩)/\E.ow b=some (.arr (.k k') c' p)/\((i+1)*T.sz<=E.hw b/\∀o,o<E.hw b->E.w.frozen? ⟨b,o,none⟩=false)/\
     ∃u:Nat->Value,∀j (hj:j<(T.toD x).length),E.w.cell? ⟨b,i*T.sz+j,none⟩=some (u j)/\
      RdP E.w (fun q=>okF E k c (.al k' c' p) ((i,j)::q)) (fun q=>qF E k c (.al k' c' p) ((i,j)::q)) (u j) ((T.toD x)[j])
 | .apd k' c' p T xs,v=>T.flat=true/\((∃b cap,v= .slice (some ⟨b,0,none⟩) xs.length cap/\kU E (.arr (.k k') c' p) b T xs cap)\/RdP E.w (okF E k c .own) (qF E k c .own) v (.sl T.sz (xs.map T.toD)))
 | .val u,v=>v=u/\v.oneCell' =true
 | .undef,v=>v.oneCell' =true
theorem VRc.one{E:Env}{bxs:Nat->Prop}{k:Pl}{c:Nat}{x:CV}{v:Value}(h:VRc E bxs k c x v):v.oneCell' =true:=by
 cases x with
 |int kd n=>obtain rfl:v=_:=h;rfl
 |bool b=>obtain rfl:v=_:=h;rfl
 |str s=>obtain⟨t,rfl,_⟩:=h;rfl
 |sl f T xs=>obtain⟨ad,cap,rfl,_⟩:=RdP.shape h;rfl
 |ptr s off=>obtain⟨rfl,_⟩:=h;rfl
 |clo k ss=>obtain⟨rfl,_⟩:=h;rfl
 |swp sf n h s=>exact h.1.1
 |eptr f T x off=>obtain⟨_,b,o,rfl,_⟩:=h;rfl
 |eref k' c' p i T x off=>obtain⟨b,rfl,_⟩:=h;rfl
 |apd k' c' p T xs=>
  rcases h.2 with ⟨b,cap,rfl,_⟩|h
  ·rfl
  ·obtain⟨ad,cap,rfl,_⟩:=RdP.shape h;rfl
 |val u=>exact h.2
 |undef=>exact h
def VRs(E:Env)(bxs:Nat->Prop)(k:Pl):Nat->List CV->List Value->Prop
 |_,[],[]=>True
 |c,x::xs,v::vs=>VRc E bxs k c x v/\VRs E bxs k (c+1) xs vs
 |_,_,_=>False
def VR1(E:Env)(bxs:Nat->Prop)(k:Pl)(c:Nat)(g:Bool)(cs:List CV)(v:Value):Prop:=
 match g with
 |true=>∃vs,v= .agg vs/\VRs E bxs k c cs vs.toList
 |false=>VRs E bxs k c cs [v]
def VRt(E:Env)(bxs:Nat->Prop)(k:Pl):Nat->List (Bool×List CV)->List Value->Prop
 |_,[],[]=>True
 |c,x::xs,v::vs=>VR1 E bxs k c x.1 x.2 v/\VRt E bxs k (c+x.2.length) xs vs
 |_,_,_=>False
def VR(E:Env)(bxs:Nat->Prop)(k:Pl):AV->Value->Prop
 | .v g cs,v=>VR1 E bxs k 0 g cs v
 | .tup xs,v=>∃vs,v= .tuple vs/\VRt E bxs k 0 xs vs.toList
 | .none,_=>True
def kV(E:Env)(bxs:Nat->Prop)(s:Nat)(cs:List CV):Prop:=
 E.ow (E.bx s)=some (.box s)/\∃vals ty,E.w.heap[E.bx s]? =some (.cells vals ty (0,0))/\VRs E bxs (.k (2*s+1)) 0 cs vals.toList
structure Ctx where
 P:Program
 B:Nat
 w0:World
 hw0:Nat->Nat
 ow0:Nat->Option Own
 hdr:Nat->Value
 nt:Nat
 ext:Nat->Option Nat
def aA(G:Nat->AV)(s:Nat):Prop:=∃cs,G (2*s+1)= .v true cs
structure Lb where
 blocks:List (Nat×Obj)
def mN:Obj->Nat
 | .cells cs _ _=>cs.size
 |_=>0
variable [Inhabited Lb]
def kE:List (Nat×Obj):=(default:Lb).blocks
def fH(E:Env):Prop:=∀x∈kE,x.1<E.w.heap.size/\E.ow x.1=none/\E.w.heap[x.1]? =some x.2/\E.hw x.1=mN x.2
structure Inv (C:Ctx) (G:Nat->AV) (tmps:Array Value) (E:Env):Prop where
 os:E.w.os=C.w0.os
 tape:E.w.tape=C.w0.tape
 output:E.w.output=C.w0.output
 size:C.B<=E.w.heap.size
 hdr:E.hdr=C.hdr
 old:∀b,b<C.B->C.ow0 b=none->E.w.heap[b]? =C.w0.heap[b]? /\E.hw b=C.hw0 b/\E.ow b=none
 new:∀b,E.w.heap.size<=b->E.ow b=none/\E.hw b=0
 inj:∀b b' l,E.ow b=some l->E.ow b' =some l->b=b'
 boxhw:∀b s,E.ow b=some (.box s)->E.hw b=0
 nt:tmps.size=C.nt
 tmp:∀t,VR E (aA G) (.k (2*t)) (G (2*t)) (tmps.getD t undef)
 box:∀s cs,G (2*s+1)= .v true cs->kV E (aA G) s cs
 ext:∀s b,C.ext s=some b->aA G s/\E.bx s=b
 base:∀x∈kE,x.1<C.B/\C.ow0 x.1=none/\C.w0.heap[x.1]? =some x.2/\C.hw0 x.1=mN x.2
def R(C:Ctx)(σ:St)(a:Act)(w:World):Prop:=a.defers=[]/\∃E,E.w=w/\Inv C σ.get a.tmps E
end Go.Ab
end
section
namespace Go.Ab
variable [Inhabited Lb]
def CV.owning:CV->Bool
 | .sl .own _ _=>true
 | .sl .tip _ _=>true
 | .sl (.lnt _) _ _=>true
 | .apd _ _ _ _ _=>true
 |_=>false
def CV.speaks(k c:Nat):CV->Prop
 | .sl (.al k' c' _) _ _=>k' =k/\c' =c
 | .eref k' c' _ _ _ _ _=>k' =k/\c' =c
 | .apd k' c' _ _ _=>k' =k/\c' =c
 |_=>False
structure Step (E E' :Env) (dk:Pl->Nat->Prop) (db:Nat->Prop) (mu:Prop):Prop where
 ro:∀b,E.ow b=none->(0<E.hw b->E'.ow b=none)/\(∀o,o<E.hw b->E'.w.cell? ⟨b,o,none⟩=E.w.cell? ⟨b,o,none⟩/\o<E'.hw b)
 own:∀b k c p,E.ow b=some (.arr k c p)->¬dk k c->E'.ow b=some (.arr k c p)/\E'.hw b=E.hw b/\E'.w.heap[b]? =E.w.heap[b]?
 bor:¬mu->∀b o,o<E.hw b->E'.w.cell? ⟨b,o,none⟩=E.w.cell? ⟨b,o,none⟩/\o<E'.hw b
 box:∀s,E.ow (E.bx s)=some (.box s)->¬db s->E'.bx s=E.bx s/\E'.ow (E.bx s)=some (.box s)/\E'.w.heap[E.bx s]? =E.w.heap[E.bx s]?
 hdr:E'.hdr=E.hdr
theorem bD{w w' :World}{b:Nat}(h:w'.heap[b]? =w.heap[b]?)(o:Nat):w'.cell? ⟨b,o,none⟩=w.cell? ⟨b,o,none⟩:=by
 grind [World.cell?]
theorem vD{w w' :World}{b:Nat}(h:w'.heap[b]? =w.heap[b]?)(o:Nat):w'.frozen? ⟨b,o,none⟩=w.frozen? ⟨b,o,none⟩:=by
 grind [World.frozen?]
theorem Tip.step{E E' :Env}{dk:Pl->Nat->Prop}{db:Nat->Prop}{mu:Prop}(h:Step E E' dk db mu){k:Pl}{c:Nat}{p:List (Nat×Nat)}(hk:¬dk k c){v:Value}{sz:Nat}
 (ht:Tip E (.arr k c p) v sz):Tip E' (.arr k c p) v sz:=by
 unfold Tip at ht ⊢;split at ht
 ·obtain⟨h1,h2,h3,cs,ty,lo,hi,h4,h5⟩:=ht;obtain⟨a,b,d⟩:=h.own _ _ _ _ h1 hk
  grind
 all_goals grind
theorem VRc.step{E E' :Env}{bxs bxs' :Nat->Prop}{dk:Pl->Nat->Prop}{db:Nat->Prop}{mu:Prop}(h:Step E E' dk db mu)(hbx:∀s,bxs s->bxs' s/\E'.bx s=E.bx s)
 {k:Pl} {c:Nat} {x:CV} {v:Value} (h1:x.owning=true->¬dk k c) (h2:∀k' c',x.speaks k' c' ->¬dk (.k k') c') (h3:x.isBor=true->¬mu) (hv:VRc E bxs k c x v):
 VRc E' bxs' k c x v:=by
 cases x with
 |int kd n=>exact hv
 |bool b=>exact hv
 |str s=>exact hv
 |val u=>exact hv
 |undef=>exact hv
 |ptr s off=>exact⟨by rw [(hbx s hv.2).2];exact hv.1,(hbx s hv.2).1⟩
 |clo k ss=>exact⟨by rw [hv.1,ZE (f:=fun s=>Value.pointer (some ⟨E.bx s,0,none⟩)) (g:=fun s=>Value.pointer (some ⟨E'.bx s,0,none⟩)) fun s hs=>by rw [(hbx s (hv.2 s hs)).2]],fun s hs=>(hbx s (hv.2 s hs)).1⟩
 |swp sf n h0 s=>exact⟨hv.1,fun ad l cap he=>by rw [h.hdr] at he ⊢;exact hv.2 ad l cap he⟩
 |sl f T xs=>
  have hv:RdP E.w (okF E k c f) (qF E k c f) v (.sl T.sz (xs.map T.toD)):=hv;show RdP E'.w (okF E' k c f) (qF E' k c f) v (.sl T.sz (xs.map T.toD));cases f with
  |ro=>
   refine hv.mono (fun p b o ho=> ?_) (fun _ _ _ _=>trivial);obtain⟨a,b'⟩:=h.ro b ho.2;exact⟨(b' o ho.1).1,(b' o ho.1).2,a (by have:=ho.1;omega)⟩
  |bor=>exact hv.mono (fun p b o ho=>h.bor (h3 rfl) b o ho) (fun _ _ _ _=>trivial)
  |own=>
   refine hv.mono (fun p b o ho=> ?_) (fun p v sz ht=>Tip.step h (h1 rfl) ht);obtain⟨a,b',d⟩:=h.own _ _ _ _ ho.2 (h1 rfl);exact⟨bD d o,by rw [b'];exact ho.1,a⟩
  |lnt n=>
   refine hv.mono (fun p b o ho=> ?_) (fun p v sz ht=>⟨Tip.step h (h1 rfl) ht.1,by rw [h.hdr];exact ht.2⟩);obtain⟨a,b',d⟩:=h.own _ _ _ _ ho.2 (h1 rfl);exact⟨bD d o,by rw [b'];exact ho.1,a⟩
  |tip=>
   refine hv.mono (fun p b o ho=> ?_) (fun p v sz ht hp=>Tip.step h (h1 rfl) (ht hp));by_cases hp:p=[]
   ·obtain⟨a,b',d⟩:=h.own _ _ _ _ (ho.2.1 hp) (h1 rfl);exact⟨bD d o,by rw [b'];exact ho.1,fun _=>a,fun hn=>absurd hp hn⟩
   ·obtain⟨a,b'⟩:=h.ro b (ho.2.2 hp);exact⟨(b' o ho.1).1,(b' o ho.1).2,fun hq=>absurd hq hp,fun _=>a (by have:=ho.1;omega)⟩
  |al k' c' p' =>
   refine hv.mono (fun p b o ho=> ?_) (fun p v sz ht=>Tip.step h (h2 k' c' ⟨rfl,rfl⟩) ht);obtain⟨a,b',d⟩:=h.own _ _ _ _ ho.2 (h2 k' c' ⟨rfl,rfl⟩);exact⟨bD d o,by rw [b'];exact ho.1,a⟩
 |apd k' c' p T xs=>
  obtain⟨hfl,hv⟩:=hv;refine⟨hfl,?_⟩;rcases hv with ⟨b,cap,e,g1,g2,g3,cs,ty,lo,hi,g4,g5⟩|hv
  ·obtain⟨a,b',d⟩:=h.own _ _ _ _ g1 (h2 k' c' ⟨rfl,rfl⟩);exact .inl ⟨b,cap,e,a,g2,by grind,cs,ty,lo,hi,d.trans g4,g5⟩
  ·refine .inr (hv.mono (fun p b o ho=> ?_) (fun p v sz ht=>Tip.step h (h1 rfl) ht));obtain⟨a,b',d⟩:=h.own _ _ _ _ ho.2 (h1 rfl);exact⟨bD d o,by rw [b'];exact ho.1,a⟩
 |eptr f T x off=>
  obtain⟨hf,b,o,e,u,hu⟩:=hv;refine⟨hf,b,o,e,u,fun j hj=> ?_⟩;obtain⟨g1,g2,g3⟩:=hu j hj;cases f with
  |ro=>
   have aux:∀(b o:Nat),o<E.hw b/\E.ow b=none->E'.w.cell? ⟨b,o,none⟩=E.w.cell? ⟨b,o,none⟩/\o<E'.hw b/\E'.ow b=none:=fun b o ho=>
    ⟨((h.ro b ho.2).2 o ho.1).1,((h.ro b ho.2).2 o ho.1).2,(h.ro b ho.2).1 (by grind)⟩
   exact⟨(aux _ _ g2).1.trans g1,(aux _ _ g2).2,g3.mono (fun p b o ho=>aux b o ho) (fun _ _ _ _=>trivial)⟩
  |bor=>
   have hm:=h.bor (h3 rfl);exact⟨(hm _ _ g2).1.trans g1,(hm _ _ g2).2,g3.mono (fun p b o ho=>hm b o ho) (fun _ _ _ _=>trivial)⟩
  |own=>grind
  |lnt n=>grind
  |tip=>grind
  |al k' c' p' =>grind
 |eref k' c' p i T x off=>
  obtain⟨b,e,e1,e2,u,hu⟩:=hv;have hd:=h2 k' c' ⟨rfl,rfl⟩;obtain⟨a,b',d⟩:=h.own _ _ _ _ e1 hd;refine⟨b,e,a,⟨by grind,fun o ho=>by grind [vD]⟩,u,fun j hj=> ?_⟩;obtain⟨g1,g2⟩:=hu j hj;refine⟨(bD d _).trans g1,g2.mono (fun p b o ho=> ?_) (fun p v sz ht=>Tip.step h hd ht)⟩;obtain⟨a,b',d⟩:=h.own _ _ _ _ ho.2 hd;exact⟨bD d o,by rw [b'];exact ho.1,a⟩
theorem CV.stale_nil(c:CV):c.stale [] false=c:=by
 cases c <;>simp [CV.stale,CV.onKey]
 grind
theorem CV.stale_stale(c:CV){s1 s2 s:List Nat}{m1 m2 m:Bool}(hs:∀k,s.contains k=(s1.contains k||s2.contains k))(hm:m=(m1||m2)):
 (c.stale s1 m1).stale s2 m2=c.stale s m:=by
 have e:∀(s1 s2 s:List Nat),(∀k,s.contains k=(s1.contains k||s2.contains k))->c.onKey s=(c.onKey s1||c.onKey s2):=by
  intro s1 s2 s hs;cases c with
  |sl f T xs=>cases f <;>simp [CV.onKey];simp_all
  |eref k c p i T x off=>grind [CV.onKey]
  |apd k c p T xs=>grind [CV.onKey]
  |_=>simp [CV.onKey]
 subst hm;unfold CV.stale;rw [e s1 s2 s hs]
 grind
theorem AV.mapC_id{f:CV->CV}(h:∀c,f c=c)(a:AV):a.mapC f=a:=by
 have:f=id:=funext h;subst this;cases a <;>simp [AV.mapC]
theorem AV.mapC_comp(f g:CV->CV)(a:AV):(a.mapC f).mapC g=a.mapC fun c=>g (f c):=by
 cases a <;>simp [AV.mapC,Function.comp_def]
theorem St.getS_eq(σ:St)(q:Nat):∀ {s1 s2 s:List Nat} {m1 m2 m:Bool},(∀k,s.contains k=(s1.contains k||s2.contains k))->m=(m1||m2)->
 St.getS σ q s m=(St.getS σ q s1 m1).mapC (CV.stale s2 m2):=by
 induction σ with
 |nil=>intros;rfl
 |cons kv r ih=>
  intro s1 s2 s m1 m2 m hs hm;obtain⟨k,v⟩:=kv;simp only [St.getS];cases hk:k.beq q with
  |true=>
   simp only [jT];rw [AV.mapC_comp]
   congr 1
   grind [CV.stale_stale]
  |false=>
   simp only [jF];refine ih (fun k' => ?_) (by grind)
   grind
theorem St.getS_get(σ:St)(q:Nat)(s:List Nat)(m:Bool):St.getS σ q s m=(σ.get q).mapC (CV.stale s m):=
 St.getS_eq σ q (fun k=>by simp) (by simp)
theorem St.get_cons(k:Nat)(v:AV)(σ:St)(q:Nat):
 St.get ((k,v)::σ) q=if k=q then v else(σ.get q).mapC (CV.stale [k] (k.beq aC)):=by
 show St.getS _ _ _ _=_
 grind [St.getS,Nat.beq_refl,AV.mapC_id,CV.stale_nil,Nat.eq_of_beq_eq_true,St.getS_get]
def CW(dk:Pl->Nat->Prop)(mu:Prop)(pl:Pl)(c:Nat)(x' x:CV):Prop:=
 x' = .undef\/(x' =x/\(x.owning=true->¬dk pl c)/\(∀k' c',x.speaks k' c' ->¬dk (.k k') c')/\(x.isBor=true->¬mu))
inductive CWs (dk:Pl->Nat->Prop) (mu:Prop) (pl:Pl):Nat->List CV->List CV->Prop where
 |nil {c}:CWs dk mu pl c [] []
 |cons {c x' x xs' xs} (h:CW dk mu pl c x' x) (t:CWs dk mu pl (c+1) xs' xs):CWs dk mu pl c (x' ::xs') (x::xs)
inductive CWt (dk:Pl->Nat->Prop) (mu:Prop) (pl:Pl):Nat->List (Bool×List CV)->List (Bool×List CV)->Prop where
 |nil {c}:CWt dk mu pl c [] []
 |cons {c g x' x xs' xs} (h:CWs dk mu pl c x' x) (t:CWt dk mu pl (c+x.length) xs' xs):CWt dk mu pl c ((g,x')::xs') ((g,x)::xs)
def AWk(dk:Pl->Nat->Prop)(mu:Prop)(pl:Pl):AV->AV->Prop
 | .none,_=>True
 | .v g cs',a=>∃cs,a= .v g cs/\CWs dk mu pl 0 cs' cs
 | .tup xs',a=>∃xs,a= .tup xs/\CWt dk mu pl 0 xs' xs
section
variable {E E' :Env} {bxs bxs' :Nat->Prop} {dk:Pl->Nat->Prop} {db:Nat->Prop} {mu:Prop} {pl:Pl}
theorem CW.vr(h:Step E E' dk db mu)(hbx:∀s,bxs s->bxs' s/\E'.bx s=E.bx s){c:Nat}{x' x:CV}{v:Value}(hw:CW dk mu pl c x' x)
 (hv:VRc E bxs pl c x v):VRc E' bxs' pl c x' v:=by
 rcases hw with rfl|⟨rfl,h1,h2,h3⟩
 ·exact hv.one
 ·exact hv.step h hbx h1 h2 h3
theorem CWs.vr(h:Step E E' dk db mu)(hbx:∀s,bxs s->bxs' s/\E'.bx s=E.bx s){c:Nat}{xs' xs:List CV}(hw:CWs dk mu pl c xs' xs):
 ∀ {vs:List Value},VRs E bxs pl c xs vs->VRs E' bxs' pl c xs' vs:=by
 induction hw with
 |nil=>grind [VRs]
 |cons h0 _ ih=>
  intro vs hv;cases vs with
  |nil=>exact hv.elim
  |cons v vs=>exact⟨h0.vr h hbx hv.1,ih hv.2⟩
theorem CWs.vr1(h:Step E E' dk db mu)(hbx:∀s,bxs s->bxs' s/\E'.bx s=E.bx s){xs' xs:List CV}{c:Nat}(hw:CWs dk mu pl c xs' xs){g:Bool}{v:Value}
 (hv:VR1 E bxs pl c g xs v):VR1 E' bxs' pl c g xs' v:=by
 cases g with
 |true=>obtain⟨vs,e,hv⟩:=hv;exact⟨vs,e,hw.vr h hbx hv⟩
 |false=>exact CWs.vr h hbx hw hv
theorem CWs.length{c:Nat}{xs' xs:List CV}(hw:CWs dk mu pl c xs' xs):xs'.length=xs.length:=by
 induction hw with
 |nil=>rfl
 |cons _ _ ih=>grind
theorem CWt.vr(h:Step E E' dk db mu)(hbx:∀s,bxs s->bxs' s/\E'.bx s=E.bx s){c:Nat}{xs' xs:List (Bool×List CV)}(hw:CWt dk mu pl c xs' xs):
 ∀ {vs:List Value},VRt E bxs pl c xs vs->VRt E' bxs' pl c xs' vs:=by
 induction hw with
 |nil=>grind [VRt]
 |cons h0 _ ih=>
  intro vs hv;cases vs with
  |nil=>exact hv.elim
  |cons v vs=>exact⟨h0.vr1 h hbx hv.1,by simp only [h0.length];exact ih hv.2⟩
theorem AWk.vr(h:Step E E' dk db mu)(hbx:∀s,bxs s->bxs' s/\E'.bx s=E.bx s){a' a:AV}(hw:AWk dk mu pl a' a){v:Value}(hv:VR E bxs pl a v):
 VR E' bxs' pl a' v:=by
 cases a' with
 |none=>trivial
 |v g cs' =>obtain⟨cs,rfl,hw⟩:=hw;exact hw.vr1 h hbx hv
 |tup xs' =>obtain⟨xs,rfl,hw⟩:=hw;obtain⟨vs,e,hv⟩:=hv;exact⟨vs,e,hw.vr h hbx hv⟩
theorem CWs.map{f:CV->CV}(hf:∀c x,CW dk mu pl c (f x) x)(xs:List CV):∀c,CWs dk mu pl c (xs.map f) xs:=by
 induction xs with
 |nil=>exact fun _=> .nil
 |cons x xs ih=>exact fun c=> .cons (hf c x) (ih _)
theorem AWk.map{f:CV->CV}(hf:∀c x,CW dk mu pl c (f x) x)(a:AV):AWk dk mu pl (a.mapC f) a:=by
 cases a with
 |none=>trivial
 |v g cs=>exact⟨cs,rfl,CWs.map hf cs 0⟩
 |tup xs=>
  refine⟨xs,rfl,?_⟩;generalize 0=c
  induction xs generalizing c with
  |nil=>exact .nil
  |cons x xs ih=>exact .cons (CWs.map hf x.2 c) (ih _)
theorem CW.stale{ks:List Nat}{m:Bool}{i:Nat}{c:CV}(h1:c.owning=true->¬dk pl i)(h2:∀k c,dk (.k k) c->k∈ks)(h3:mu->m=true):CW dk mu pl i (c.stale ks m) c:=by
 unfold CV.stale;cases ho:c.onKey ks with
 |true=>exact .inl rfl
 |false=>
  cases hb:(m&&c.isBor) with
  |true=>exact .inl rfl
  |false=>
   refine .inr ⟨rfl,h1,fun k' c' hs hd=> ?_,fun hc hm=> ?_⟩
   ·have hk:=h2 _ _ hd;have:ks.contains k' =true:=Z2.2 hk;cases c with
    |sl f T xs=>
     cases f with
     |al k c p=>
      have e:k=k' :=hs.1
      grind [CV.onKey]
     |_=>exact hs.elim
    |eref k c p i T x off=>
     have e:k=k' :=hs.1
     grind [CV.onKey]
    |apd k c p T xs=>
     have e:k=k' :=hs.1
     grind [CV.onKey]
    |_=>exact hs.elim
   grind
end
theorem Inv.step{C:Ctx}{G G' :Nat->AV}{tmps tmps' :Array Value}{E E' :Env}{dk:Pl->Nat->Prop}{db:Nat->Prop}{mu:Prop}
 (hi:Inv C G tmps E) (hs:Step E E' dk db mu)
 (hos:E'.w.os=E.w.os) (htape:E'.w.tape=E.w.tape) (hout:E'.w.output=E.w.output) (hsize:E.w.heap.size<=E'.w.heap.size)
 (hold:∀b,b<C.B->C.ow0 b=none->E'.w.heap[b]? =E.w.heap[b]? /\E'.hw b=E.hw b/\E'.ow b=none)
 (hnew:∀b,E'.w.heap.size<=b->E'.ow b=none/\E'.hw b=0)
 (hinj:∀b b' l,E'.ow b=some l->E'.ow b' =some l->b=b')
 (hbhw:∀b s,E'.ow b=some (.box s)->E'.hw b=0)
 (hnt:tmps'.size=tmps.size)
 (hbxs:∀s,aA G s->aA G' s/\E'.bx s=E.bx s)
 (htmp:∀t,VR E' (aA G') (.k (2*t)) (G' (2*t)) (tmps'.getD t undef)\/
   (AWk dk mu (.k (2*t)) (G' (2*t)) (G (2*t))/\tmps'.getD t undef=tmps.getD t undef))
 (hbox:∀s cs',G' (2*s+1)= .v true cs' ->kV E' (aA G') s cs' \/
   (¬db s/\∃cs,G (2*s+1)= .v true cs/\CWs dk mu (.k (2*s+1)) 0 cs' cs)):
 Inv C G' tmps' E' where
 os:=hos.trans hi.os
 base:=hi.base
 ext:=fun s b h=>⟨(hbxs s (hi.ext s b h).1).1,(hbxs s (hi.ext s b h).1).2.trans (hi.ext s b h).2⟩
 tape:=htape.trans hi.tape
 output:=hout.trans hi.output
 size:=ZT hi.size hsize
 hdr:=hs.hdr.trans hi.hdr
 old:=fun b hb h0=>by
  obtain⟨a,b',c⟩:=hold b hb h0;obtain⟨a',b'',_⟩:=hi.old b hb h0
  grind
 new:=hnew
 inj:=hinj
 boxhw:=hbhw
 nt:=hnt.trans hi.nt
 tmp:=fun t=>by
  rcases htmp t with h|⟨h,e⟩
  ·exact h
  ·rw [e];exact h.vr hs hbxs (hi.tmp t)
 box:=fun s cs' hg=>by
  rcases hbox s cs' hg with h|⟨hd,cs,hc,hw⟩
  ·exact h
  ·obtain⟨h1,vals,ty,h2,h3⟩:=hi.box s cs hc;obtain⟨b1,b2,b3⟩:=hs.box s h1 hd;refine⟨by grind,vals,ty,by grind,hw.vr hs hbxs h3⟩
def Env.rel(E:Env)(f:Own->Option Own):Env:= { E with ow:=fun b=>(E.ow b).bind f }
structure RhoOk (f:Own->Option Own) (dk:Pl->Nat->Prop):Prop where
 box:∀s,f (.box s)=some (.box s)
 id:∀k c p,¬dk k c->f (.arr k c p)=some (.arr k c p)
 inj:∀l1 l2 l,f l1=some l->f l2=some l->l1=l2
 arr:∀k c p s,f (.arr k c p)≠some (.box s)
section
variable {E:Env} {f:Own->Option Own} {dk:Pl->Nat->Prop} {bxs:Nat->Prop}
theorem f9(hf:RhoOk f dk):Step E (E.rel f) dk (fun _=>False) False where
 ro:=fun b hb=>⟨fun _=>by grind [Env.rel],fun o ho=>⟨rfl,ho⟩⟩
 own:=fun b k c p hb hk=>⟨by simp [Env.rel,hb,hf.id k c p hk],rfl,rfl⟩
 bor:=fun _ b o ho=>⟨rfl,ho⟩
 box:=fun s hs _=>⟨rfl,by simp [Env.rel,hs,hf.box],rfl⟩
 hdr:=rfl
theorem Inv.rel{C:Ctx}{G G' :Nat->AV}{tmps tmps' :Array Value}(hi:Inv C G tmps E)(hf:RhoOk f dk)(hnt:tmps'.size=tmps.size)
 (hbxs:∀s,aA G s->aA G' s)
 (htmp:∀t,VR (E.rel f) (aA G') (.k (2*t)) (G' (2*t)) (tmps'.getD t undef)\/
   (AWk dk False (.k (2*t)) (G' (2*t)) (G (2*t))/\tmps'.getD t undef=tmps.getD t undef))
 (hbox:∀s cs',G' (2*s+1)= .v true cs' ->kV (E.rel f) (aA G') s cs' \/
   (∃cs,G (2*s+1)= .v true cs/\CWs dk False (.k (2*s+1)) 0 cs' cs)):
 Inv C G' tmps' (E.rel f):=by
 refine hi.step (f9 hf) rfl rfl rfl (Zn _) (fun b hb h0=> ?_) (fun b hb=> ?_) (fun b b' l h1 h2=> ?_) (fun b s h=> ?_) hnt (fun s hs=>⟨hbxs s hs,rfl⟩) htmp
  (fun s cs' hg=>(hbox s cs' hg).imp id fun h=>⟨id,h⟩)
 ·exact⟨rfl,rfl,by simp [Env.rel,(hi.old b hb h0).2.2]⟩
 ·have:=hi.new b hb
  grind [Env.rel]
 ·simp only [Env.rel,Zq] at h1 h2;obtain⟨l1,a1,c1⟩:=h1;obtain⟨l2,a2,c2⟩:=h2;have:=hf.inj _ _ _ c1 c2;subst this;exact hi.inj _ _ _ a1 a2
 ·simp only [Env.rel,Zq] at h;obtain⟨l,a,c⟩:=h;cases l with
  |box s' =>
   rw [hf.box] at c;cases c;exact hi.boxhw b _ a
  |arr k c' p=>exact absurd c (hf.arr k c' p s)
theorem Tip.rel{k k' :Pl}{c c' :Nat}{v:Value}{sz:Nat}{p p' :List (Nat×Nat)}(hm:f (.arr k c p)=some (.arr k' c' p'))(h:Tip E (.arr k c p) v sz):
 Tip (E.rel f) (.arr k' c' p') v sz:=by
 unfold Tip at h ⊢
 grind [Env.rel]
theorem VRc.rel(hf:RhoOk f dk){k k' :Pl}{c c' :Nat}{x:CV}{v:Value}(hm:x.owning=true->∀p,f (.arr k c p)=some (.arr k' c' p))
 (hs:∀k1 c1,x.speaks k1 c1->¬dk (.k k1) c1) (hv:VRc E bxs k c x v):VRc (E.rel f) bxs k' c' x v:=by
 cases x with
 |int kd n=>exact hv
 |bool b=>exact hv
 |str s=>exact hv
 |val u=>exact hv
 |undef=>exact hv
 |ptr s off=>exact hv
 |clo k ss=>exact hv
 |swp sf n h0 s=>exact hv
 |sl fl T xs=>
  have hv:RdP E.w (okF E k c fl) (qF E k c fl) v (.sl T.sz (xs.map T.toD)):=hv;show RdP (E.rel f).w (okF (E.rel f) k' c' fl) (qF (E.rel f) k' c' fl) v (.sl T.sz (xs.map T.toD));cases fl with
  |ro=>exact hv.mono (fun p b o ho=>⟨rfl,ho.1,by simp [Env.rel,ho.2]⟩) (fun _ _ _ _=>trivial)
  |bor=>exact hv.mono (fun p b o ho=>⟨rfl,ho⟩) (fun _ _ _ _=>trivial)
  |own=>exact hv.mono (fun p b o ho=>⟨rfl,ho.1,by simp [Env.rel,ho.2,hm rfl]⟩) (fun p v sz ht=>Tip.rel (hm rfl p) ht)
  |lnt n=>exact hv.mono (fun p b o ho=>⟨rfl,ho.1,by simp [Env.rel,ho.2,hm rfl]⟩) (fun p v sz ht=>⟨Tip.rel (hm rfl p) ht.1,ht.2⟩)
  |tip=>
   refine hv.mono (fun p b o ho=>⟨rfl,ho.1,fun hp=> ?_,fun hp=> ?_⟩) (fun p v sz ht hp=>Tip.rel (hm rfl p) (ht hp))
   ·simp [Env.rel,ho.2.1 hp,hm rfl]
   ·simp [Env.rel,ho.2.2 hp]
  |al k1 c1 p1=>
   have hid:=fun p=>hf.id (.k k1) c1 p (hs k1 c1 ⟨rfl,rfl⟩);exact hv.mono (fun p b o ho=>⟨rfl,ho.1,by simp [Env.rel,ho.2,hid]⟩) (fun p v sz ht=>Tip.rel (hid _) ht)
 |eptr fl T x off=>
  obtain⟨hfl,b,o,e,u,hu⟩:=hv;refine⟨hfl,b,o,e,u,fun j hj=> ?_⟩;obtain⟨g1,g2,g3⟩:=hu j hj;rcases hfl with rfl|rfl
  ·exact⟨g1,⟨g2.1,by simp [Env.rel,g2.2]⟩,g3.mono (fun p b o ho=>⟨rfl,ho.1,by simp [Env.rel,ho.2]⟩) (fun _ _ _ _=>trivial)⟩
  ·exact⟨g1,g2,g3.mono (fun p b o ho=>⟨rfl,ho⟩) (fun _ _ _ _=>trivial)⟩
 |eref k1 c1 p1 i T x off=>
  obtain⟨b,e,e1,e2,u,hu⟩:=hv;have hid:=fun p=>hf.id (.k k1) c1 p (hs k1 c1 ⟨rfl,rfl⟩);refine⟨b,e,by grind [Env.rel],e2,u,fun j hj=>⟨(hu j hj).1,(hu j hj).2.mono (fun p b o ho=>⟨rfl,ho.1,by simp [Env.rel,ho.2,hid]⟩) (fun p v sz ht=>Tip.rel (hid _) ht)⟩⟩
 |apd k1 c1 p1 T xs=>
  obtain⟨hfl,hv⟩:=hv;refine⟨hfl,?_⟩;rcases hv with ⟨b,cap,e,g1,g2,g3,g4⟩|hv
  ·have hid:=hf.id (.k k1) c1 p1 (hs k1 c1 ⟨rfl,rfl⟩);exact .inl ⟨b,cap,e,by grind [Env.rel],g2,g3,g4⟩
  ·exact .inr (hv.mono (fun p b o ho=>⟨rfl,ho.1,by simp [Env.rel,ho.2,hm rfl]⟩) (fun p v sz ht=>Tip.rel (hm rfl p) ht))
theorem VRc.any{k k' :Pl}{c c' :Nat}{x:CV}{v:Value}(hx:x.owning=false)(hv:VRc E bxs k c x v):VRc E bxs k' c' x v:=by
 cases x with
 |sl fl T xs=>cases fl <;>first |exact hv|grind [CV.owning]
 |eptr fl T x off=>
  obtain⟨hfl,r⟩:=hv;rcases hfl with rfl|rfl <;>exact⟨by simp,r⟩
 |eref k1 c1 p1 i T x off=>exact hv
 |apd k1 c1 p1 T xs=>grind [CV.owning]
 |_=>exact hv
theorem VRc.cp{k k' :Pl}{c c' :Nat}{x:CV}{v:Value}(hv:VRc E bxs k c x v):VRc E bxs k' c' x.cp v:=by
 cases x with
 |sl fl T xs=>
  have hv:RdP E.w (okF E k c fl) (qF E k c fl) v (.sl T.sz (xs.map T.toD)):=hv;cases fl with
  |own=>exact hv.mono (fun p b o ho=>⟨rfl,ho.1⟩) (fun _ _ _ _=>trivial)
  |tip=>exact hv.mono (fun p b o ho=>⟨rfl,ho.1⟩) (fun _ _ _ _=>trivial)
  |lnt n=>exact hv.mono (fun p b o ho=>⟨rfl,ho.1⟩) (fun _ _ _ _=>trivial)
  |ro=>exact hv
  |bor=>exact hv
  |al k1 c1 p1=>exact hv
 |eptr fl T x off=>exact VRc.any rfl hv
 |apd k1 c1 p1 T xs=>exact hv.one
 |_=>exact hv
theorem VRc.alias{k:Nat}{k' :Pl}{c c' :Nat}{x:CV}{v:Value}(hv:VRc E bxs (.k k) c x v):VRc E bxs k' c' (x.alias k c []) v:=by
 cases x with
 |sl fl T xs=>
  have hv:RdP E.w (okF E (.k k) c fl) (qF E (.k k) c fl) v (.sl T.sz (xs.map T.toD)):=hv;cases fl with
  |own=>exact hv.mono (fun p b o ho=>⟨rfl,ho.1,ho.2⟩) (fun _ _ _ h=>h)
  |tip=>exact hv.mono (fun p b o ho=>⟨rfl,ho.1⟩) (fun _ _ _ _=>trivial)
  |lnt n=>exact hv.mono (fun p b o ho=>⟨rfl,ho.1,ho.2⟩) (fun _ _ _ h=>h.1)
  |ro=>exact hv
  |bor=>exact hv
  |al k1 c1 p1=>exact hv
 |eptr fl T x off=>exact VRc.any rfl hv
 |apd k1 c1 p1 T xs=>exact hv.one
 |_=>exact hv
end
theorem VRs.imp{E E' :Env}{bxs bxs' :Nat->Prop}{pl pl' :Pl}{f:CV->CV}{xs:List CV}:∀ {c c' :Nat} {vs:List Value},
 (∀j x v,x∈xs->VRc E bxs pl (c+j) x v->VRc E' bxs' pl' (c' +j) (f x) v)->VRs E bxs pl c xs vs->VRs E' bxs' pl' c' (xs.map f) vs:=by
 induction xs with
 |nil=>grind [VRs]
 |cons x xs ih=>
  intro c c' vs h hv;cases vs with
  |nil=>exact hv.elim
  |cons v vs=>
   refine⟨h 0 x v (by simp) hv.1,ih (fun j y u hy hu=> ?_) hv.2⟩;have:=h (j+1) y u (by grind) (by grind)
   grind
theorem VR1.imp{E E' :Env}{bxs bxs' :Nat->Prop}{pl pl' :Pl}{f:CV->CV}{xs:List CV}{c c' :Nat}{g:Bool}{v:Value}
 (h:∀j x v,x∈xs->VRc E bxs pl (c+j) x v->VRc E' bxs' pl' (c' +j) (f x) v) (hv:VR1 E bxs pl c g xs v):VR1 E' bxs' pl' c' g (xs.map f) v:=by
 cases g with
 |true=>obtain⟨vs,e,hv⟩:=hv;exact⟨vs,e,hv.imp h⟩
 |false=>exact VRs.imp h hv
theorem VRs.impLt{E E' :Env}{bxs bxs' :Nat->Prop}{pl pl' :Pl}{f:CV->CV}{xs:List CV}:∀ {c c' :Nat} {vs:List Value},
 (∀j x v,j<xs.length->VRc E bxs pl (c+j) x v->VRc E' bxs' pl' (c' +j) (f x) v)->VRs E bxs pl c xs vs->VRs E' bxs' pl' c' (xs.map f) vs:=by
 induction xs with
 |nil=>grind [VRs]
 |cons x xs ih=>
  intro c c' vs h hv;cases vs with
  |nil=>exact hv.elim
  |cons v vs=>
   refine⟨h 0 x v (by simp) hv.1,ih (fun j y u hy hu=> ?_) hv.2⟩;have:=h (j+1) y u (by grind) (by grind)
   grind
theorem VR1.impLt{E E' :Env}{bxs bxs' :Nat->Prop}{pl pl' :Pl}{f:CV->CV}{xs:List CV}{c c' :Nat}{g:Bool}{v:Value}
 (h:∀j x v,j<xs.length->VRc E bxs pl (c+j) x v->VRc E' bxs' pl' (c' +j) (f x) v) (hv:VR1 E bxs pl c g xs v):VR1 E' bxs' pl' c' g (xs.map f) v:=by
 cases g with
 |true=>obtain⟨vs,e,hv⟩:=hv;exact⟨vs,e,hv.impLt h⟩
 |false=>exact VRs.impLt h hv
def AV.mem(x:CV):AV->Prop
 | .v _ cs=>x∈cs
 | .tup xs=>∃y∈xs,x∈y.2
 | .none=>False
theorem VR.imp{E E' :Env}{bxs bxs' :Nat->Prop}{pl pl' :Pl}{f:CV->CV}{a:AV}{v:Value}
 (h:∀j x v,a.mem x->VRc E bxs pl j x v->VRc E' bxs' pl' j (f x) v) (hv:VR E bxs pl a v):VR E' bxs' pl' (a.mapC f) v:=by
 cases a with
 |none=>trivial
 |v g cs=>exact VR1.imp (fun j x v hx hv=>by simpa using h (0+j) x v hx hv) hv
 |tup xs=>
  obtain⟨vs,e,hv⟩:=hv;refine⟨vs,e,?_⟩;generalize vs.toList=vl at hv;have key:∀(ys:List (Bool×List CV)) (c:Nat) (vl:List Value),(∀y∈ys,y∈xs)->VRt E bxs pl c ys vl->VRt E' bxs' pl' c (ys.map fun x=>(x.1,x.2.map f)) vl:=by
   intro ys
   induction ys with
   |nil=>grind [VRt]
   |cons y ys ih=>
    intro c vl hm hv;cases vl with
    |nil=>exact hv.elim
    |cons v vl=>
     refine⟨VR1.imp (fun j x v hx hv=>h (c+j) x v ⟨y,hm y (by simp),hx⟩ hv) hv.1,?_⟩;simp only [Zm];exact ih _ _ (fun y hy=>hm y (by grind)) hv.2
  grind
theorem VR.imp0{E E' :Env}{bxs bxs' :Nat->Prop}{pl pl' :Pl}{a:AV}{v:Value}
 (h:∀j x v,a.mem x->VRc E bxs pl j x v->VRc E' bxs' pl' j x v) (hv:VR E bxs pl a v):VR E' bxs' pl' a v:=by
 have:=VR.imp (f:=id) h hv
 grind [AV.mapC_id]
theorem AV.mem_mapC{f:CV->CV}{a:AV}{x:CV}(h:(a.mapC f).mem x):∃y,a.mem y/\x=f y:=by
 cases a with
 |none=>exact h.elim
 |v g cs=>obtain⟨y,hy,e⟩:=Zk.1 h;exact⟨y,hy,e.symm⟩
 |tup xs=>
  obtain⟨y,hy,hx⟩:=h;obtain⟨z,hz,rfl⟩:=Zk.1 hy;obtain⟨y,hy,e⟩:=Zk.1 hx;exact⟨y,⟨z,hz,hy⟩,e.symm⟩
theorem CV.stale_eq{s:List Nat}{m:Bool}(c:CV):c.stale s m= .undef\/(c.stale s m=c/\c.onKey s=false/\(m&&c.isBor)=false):=by
 grind [CV.stale]
theorem CV.speaks_onKey{s:List Nat}{c:CV}{k i:Nat}(h:c.onKey s=false)(hs:c.speaks k i):k ∉ s:=by
 intro hk;have:s.contains k=true:=Z2.2 hk;cases c with
 |sl f T xs=>
  cases f with
  |al k' c' p=>obtain⟨rfl,rfl⟩:=hs;grind [CV.onKey]
  |_=>exact hs.elim
 |eref k' c' p i T x off=>obtain⟨rfl,rfl⟩:=hs;grind [CV.onKey]
 |apd k' c' p T xs=>obtain⟨rfl,rfl⟩:=hs;grind [CV.onKey]
 |_=>exact hs.elim
theorem pB(tmps:Array Value)(d t:Nat)(v:Value)(hd:d<tmps.size):(tmps.setIfInBounds d v).getD t undef=if t=d then v else tmps.getD t undef:=by
 by_cases h:t=d
 ·simp_all
 ·simp only [Za h,Array.getD,Array.size_setIfInBounds];by_cases ht:t<tmps.size
  ·simp only [ht,dif_pos];show(tmps.setIfInBounds d v)[t]'_=tmps[t]
   grind
  grind
def d9(q i:Nat):Own->Option Own
 | .arr (.k k) c p=>if k=q then some (.arr (.h i) c p) else some (.arr (.k k) c p)
 | .arr (.h j) c p=>if j=i then none else some (.arr (.h j) c p)
 | .box s=>some (.box s)
def dk2(q i:Nat):Pl->Nat->Prop:=fun pl _=>pl= .k q\/pl= .h i
theorem zD(q i:Nat):RhoOk (d9 q i) (dk2 q i) where
 box:=fun _=>rfl
 id:=fun k c p h=>by
  unfold dk2 at h;cases k with
  |k n=>grind [d9]
  |h n=>grind [d9]
 inj:=fun l1 l2 l h1 h2=>by
  unfold d9 at h1 h2
  grind
 arr:=fun k c p s=>by
  cases k <;>simp only [d9] <;>split <;>simp
def dZ(q i:Nat):Own->Option Own
 | .arr (.k k) c p=>if k=q then none else some (.arr (.k k) c p)
 | .arr (.h j) c p=>if j=i then some (.arr (.k q) c p) else some (.arr (.h j) c p)
 | .box s=>some (.box s)
theorem yE(q i:Nat):RhoOk (dZ q i) (dk2 q i) where
 box:=fun _=>rfl
 id:=fun k c p h=>by
  unfold dk2 at h;cases k with
  |k n=>grind [dZ]
  |h n=>grind [dZ]
 inj:=fun l1 l2 l h1 h2=>by
  unfold dZ at h1 h2
  grind
 arr:=fun k c p s=>by
  cases k <;>simp only [dZ] <;>split <;>simp
theorem dX{k:Nat}{v:AV}{σ:St}{s:Nat}(hk:k≠2*s+1)(h:aA σ.get s):aA (St.get ((k,v)::σ)) s:=by
 obtain⟨cs,hc⟩:=h;exact⟨cs.map (CV.stale [k] (k.beq aC)),by rw [St.get_cons,Za hk,hc];rfl⟩
theorem eU{k:Nat}{v:AV}{σ:St}{s:Nat}{cs' :List CV}(hk:k≠2*s+1)(h:St.get ((k,v)::σ) (2*s+1)= .v true cs'):
 ∃cs,σ.get (2*s+1)= .v true cs/\cs' =cs.map (CV.stale [k] (k.beq aC)):=by
 rw [St.get_cons,Za hk] at h;cases ha:σ.get (2*s+1) with
 |v g cs=>grind [AV.mapC]
 |tup xs=>grind [AV.mapC]
 |none=>grind [AV.mapC]
theorem Inv.take{C:Ctx}{σ:St}{tmps:Array Value}{E:Env}(hi:Inv C σ.get tmps E)(t i:Nat):
 ∃E',E'.w=E.w/\E'.bx=E.bx/\Step E E' (dk2 (2*t) i) (fun _=>False) False/\
  Inv C (St.get ((2*t,((σ.get (2*t)).mapC (CV.stale [2*t] false)).mapC CV.left)::σ)) tmps E' /\
  VR E' (aA (St.get ((2*t,((σ.get (2*t)).mapC (CV.stale [2*t] false)).mapC CV.left)::σ))) (.h i) ((σ.get (2*t)).mapC (CV.stale [2*t] false)) (tmps.getD t undef):=by
 have hr:=zD (2*t) i;have hb:∀s,aA σ.get s->aA (St.get ((2*t,((σ.get (2*t)).mapC (CV.stale [2*t] false)).mapC CV.left)::σ)) s:=fun s=>dX (by omega);refine⟨E.rel (d9 (2*t) i),rfl,rfl,f9 hr,hi.rel hr rfl hb (fun t' => ?_) (fun s cs' hs=> ?_),?_⟩
 ·refine .inr ⟨?_,rfl⟩;rw [St.get_cons];split
  ·rename_i e;rw [AV.mapC_comp,<-e];refine AWk.map (fun c x=> ?_) _;rcases CV.stale_eq (s:=[2*t]) (m:=false) x with h|⟨h,h1,_⟩
   ·exact .inl (by rw [h];rfl)
   ·rw [h];cases ho:x.owning with
    |true=>refine .inl ?_;cases x with
     |sl f T xs=>cases f <;>first |rfl|grind [CV.owning]
     |apd k c p T xs=>rfl
     |_=>simp [CV.owning] at ho
    |false=>
     refine .inr ⟨?_,fun h=>absurd (ho.symm.trans h) (by decide),fun k' c' hs hd=> ?_,fun _ h=>h⟩
     ·cases x with
      |sl f T xs=>cases f <;>first |rfl|grind [CV.owning]
      |apd k c p T xs=>grind [CV.owning]
      |_=>rfl
     ·rcases hd with hd|hd
      ·cases hd;exact CV.speaks_onKey h1 hs (by simp)
      grind
  ·rename_i e;refine AWk.map (fun c x=>CW.stale (fun _ hd=> ?_) (fun k c hd=> ?_) (fun h=>h.elim)) _
   ·rcases hd with hd|hd
    all_goals grind
   ·rcases hd with hd|hd
    all_goals grind
 ·obtain⟨cs,hc,rfl⟩:=eU (by omega) hs;refine .inr ⟨cs,hc,CWs.map (fun c x=>CW.stale (fun _ hd=> ?_) (fun k c hd=> ?_) (fun h=>h.elim)) _ _⟩
  ·rcases hd with hd|hd
   all_goals grind
  ·rcases hd with hd|hd
   all_goals grind
 ·refine VR.imp (fun j x v hx hv=> ?_) (hi.tmp t);rcases CV.stale_eq (s:=[2*t]) (m:=false) x with h|⟨h,h1,_⟩
  ·rw [h];exact hv.one
  ·rw [h];have:=hv.rel (f:=d9 (2*t) i) (k' := .h i) (c' :=j) hr (fun _ p=>by simp [d9]) (fun k1 c1 hs hd=> ?_)
   ·exact VRc.step (E' :=E.rel (d9 (2*t) i)) (dk:=fun _ _=>False) (db:=fun _=>True) (mu:=False) ⟨fun b hb=>⟨fun _=>hb,fun o ho=>⟨rfl,ho⟩⟩,fun b k c p hb _=>⟨hb,rfl,rfl⟩,fun _ b o ho=>⟨rfl,ho⟩,fun s _ h=>(h trivial).elim,rfl⟩
     (fun s hs=>⟨hb s hs,rfl⟩) (by simp) (by simp) (by simp) this
   ·rcases hd with hd|hd
    ·cases hd;exact CV.speaks_onKey h1 hs (by simp)
    grind
theorem Inv.put{C:Ctx}{σ:St}{tmps:Array Value}{E:Env}(hi:Inv C σ.get tmps E){d i:Nat}{a:AV}{v:Value}(hv:VR E (aA σ.get) (.h i) a v)(hd:d<tmps.size):
 ∃E',E'.w=E.w/\E'.bx=E.bx/\Step E E' (dk2 (2*d) i) (fun _=>False) False/\
  Inv C (St.get ((2*d,a.mapC (CV.stale [2*d] false))::σ)) (tmps.setIfInBounds d v) E' :=by
 have hr:=yE (2*d) i;have hb:∀s,aA σ.get s->aA (St.get ((2*d,a.mapC (CV.stale [2*d] false))::σ)) s:=fun s=>dX (by omega);refine⟨E.rel (dZ (2*d) i),rfl,rfl,f9 hr,hi.rel hr (by simp) hb (fun t' => ?_) (fun s cs' hs=> ?_)⟩
 ·by_cases e:t' =d
  ·subst e;refine .inl ?_;rw [St.get_cons,Zt rfl,pB _ _ _ _ hd,Zt rfl];refine VR.imp (fun j x v hx hv=> ?_) hv;rcases CV.stale_eq (s:=[2*t']) (m:=false) x with h|⟨h,h1,_⟩
   ·rw [h];exact hv.one
   ·rw [h];have:=hv.rel (f:=dZ (2*t') i) (k' := .k (2*t')) (c' :=j) hr (fun _ p=>by simp [dZ]) (fun k1 c1 hs hd=> ?_)
    ·exact VRc.step (E' :=E.rel (dZ (2*t') i)) (dk:=fun _ _=>False) (db:=fun _=>True) (mu:=False) ⟨fun b hb=>⟨fun _=>hb,fun o ho=>⟨rfl,ho⟩⟩,fun b k c p hb _=>⟨hb,rfl,rfl⟩,fun _ b o ho=>⟨rfl,ho⟩,fun s _ h=>(h trivial).elim,rfl⟩
      (fun s hs=>⟨hb s hs,rfl⟩) (by simp) (by simp) (by simp) this
    ·rcases hd with hd|hd
     ·cases hd;exact CV.speaks_onKey h1 hs (by simp)
     grind
  ·refine .inr ⟨?_,by grind [pB]⟩;rw [St.get_cons,Za (by omega)];refine AWk.map (fun c x=>CW.stale (fun _ hd=> ?_) (fun k c hd=> ?_) (fun h=>h.elim)) _
   ·rcases hd with hd|hd
    all_goals grind
   ·rcases hd with hd|hd
    all_goals grind
 ·obtain⟨cs,hc,rfl⟩:=eU (by omega) hs;refine .inr ⟨cs,hc,CWs.map (fun c x=>CW.stale (fun _ hd=> ?_) (fun k c hd=> ?_) (fun h=>h.elim)) _ _⟩
  ·rcases hd with hd|hd
   all_goals grind
  ·rcases hd with hd|hd
   all_goals grind
def Mr{α:Type}(m:M α)(σ:St)(u:Ups):Option (α×Ups):=(m u).run σ.get
theorem RT.run_bind{α β:Type}(m:RT α)(f:α->RT β)(g:Nat->AV):(m.bind f).run g=(m.run g).bind fun a=>(f a).run g:=by
 induction m with
 |ret a=>rfl
 |fail=>rfl
 |rd k f' ih=>grind [RT.bind,RT.run]
theorem rY{α:Type}(a:α)(σ:St)(u:Ups):Mr (M.pure a) σ u=some (a,u):=rfl
theorem rV{α:Type}(σ:St)(u:Ups):Mr (bad:M α) σ u=none:=rfl
theorem rZ(k:Nat)(a:AV)(σ:St)(u:Ups):Mr (bQ k a) σ u=some ((),(k,a)::u):=rfl
theorem rX{α:Type}(x:Option α)(σ:St)(u:Ups):Mr (ofO x) σ u=x.map fun a=>(a,u):=by cases x <;>rfl
theorem nD{α β:Type}(m:M α)(f:α->M β)(σ:St)(u:Ups):Mr (m.bind f) σ u=(Mr m σ u).bind fun x=>Mr (f x.1) σ x.2:=
 RT.run_bind _ _ _
theorem vO(σ:St)(u:St)(k:Nat):∀(s:List Nat) (m:Bool),St.getS (u++σ) k s m=
 (match kA u k s m with | .inl a=>a| .inr (s',m')=>St.getS σ k s' m'):=by
 induction u with
 |nil=>intros;rfl
 |cons kv r ih=>
  grind [St.getS,kA]
theorem rW(k:Nat)(σ:St)(u:Ups):Mr (cD k) σ u=some (St.get (u++σ) k,u):=by
 have h:=vO σ u k [] false;unfold Mr cD;show _=some (St.getS (u++σ) k [] false,u)
 grind [RT.run,St.getS_get]
theorem aD{α β:Type}{m:M α}{f:α->M β}{σ:St}{u:Ups}{r:β×Ups}(h:Mr (m.bind f) σ u=some r):
 ∃a u',Mr m σ u=some (a,u')/\Mr (f a) σ u' =some r:=by
 grind [nD,Option.bind_eq_some_iff]
theorem bT{k:Nat}{σ:St}{u u' :Ups}{a:AV}(h:Mr (cD k) σ u=some (a,u')):a=St.get (u++σ) k/\u' =u:=by
 grind [rW]
theorem bP{k:Nat}{a:AV}{σ:St}{u u' :Ups}{x:Unit}(h:Mr (bQ k a) σ u=some (x,u')):u' =(k,a)::u:=by
 grind [rZ]
theorem aF{α:Type}{a b:α}{σ:St}{u u' :Ups}(h:Mr (M.pure a) σ u=some (b,u')):b=a/\u' =u:=by
 grind [rY]
theorem cZ{α:Type}{x:Option α}{b:α}{σ:St}{u u' :Ups}(h:Mr (ofO x) σ u=some (b,u')):x=some b/\u' =u:=by
 grind [rX,Option.map_eq_some_iff]
theorem aE{α:Type}{r:α×Ups}{σ:St}{u:Ups}(h:Mr (bad:M α) σ u=some r):False:=by
 grind [rV]
def Hand(C:Ctx)(σ:St)(tmps:Array Value)(w:World)(i:Nat)(a:AV)(v:Value):Prop:=
 ∃E,E.w=w/\Inv C σ.get tmps E/\VR E (aA σ.get) (.h i) a v
section
variable {C:Ctx} {σ:St} {a:Act} {E:Env} {u u' :Ups} {tt:TT}
theorem lM{E:Env}{bxs:Nat->Prop}(tt:TT)(ty:TypeId)(v:Value)(pl:Pl):VR E bxs pl (gV tt ty v) v:=by
 unfold gV;split
 ·exact⟨rfl,trivial⟩
 ·exact⟨rfl,trivial⟩
 ·exact⟨⟨_,rfl,rfl⟩,trivial⟩
 ·split
  ·split
   ·rename_i e T _;refine⟨?_,trivial⟩;exact RdP.nil none 0 T.sz ⟨rfl,rfl⟩
   ·trivial
  ·trivial
 ·exact⟨⟨rfl,rfl⟩,trivial⟩
 ·exact⟨⟨rfl,rfl⟩,trivial⟩
 ·trivial
theorem eH(hi:Inv C (St.get (u++σ)) a.tmps E){ty:TypeId}{x:Operand}{r:AV}(h:Mr (opd tt .cp ty x) σ u=some (r,u')):
 u' =u/\∀pl,VR E (aA (St.get (u++σ))) pl r (a.eval x):=by
 cases x with
 |tmp t=>
  simp only [opd,rdK] at h;obtain⟨b,u1,h1,h2⟩:=aD h;obtain⟨rfl,rfl⟩:=bT h1;obtain⟨rfl,rfl⟩:=aF h2;exact⟨rfl,fun pl=>(hi.tmp t).imp fun j x v _ hv=>hv.cp⟩
 |const v=>
  obtain⟨rfl,rfl⟩:=aF h;exact⟨rfl,fun pl=>lM tt ty v pl⟩
 |func f=>
  obtain⟨rfl,rfl⟩:=aF h;exact⟨rfl,fun pl=>⟨⟨rfl,rfl⟩,trivial⟩⟩
 |global g=>exact(aE h).elim
theorem iU{r:AV}{c:CV}(h:Mr (fZ r) σ u=some (c,u')):r= .v false [c]/\u' =u:=by
 unfold fZ at h
 grind [aF,aE]
theorem bO(hi:Inv C (St.get (u++σ)) a.tmps E){ty:TypeId}{x:Operand}{c:CV}(h:Mr (opc tt ty x) σ u=some (c,u')):
 u' =u/\∀pl i,VRc E (aA (St.get (u++σ))) pl i c (a.eval x):=by
 obtain⟨b,u1,h1,h2⟩:=aD h;obtain⟨rfl,hv⟩:=eH hi h1;obtain⟨rfl,rfl⟩:=iU h2;refine⟨rfl,fun pl i=> ?_⟩;cases x with
 |tmp t=>
  simp only [opd,rdK] at h1;obtain⟨b,u2,h3,h4⟩:=aD h1;obtain⟨rfl,rfl⟩:=bT h3;obtain⟨e,_⟩:=aF h4;have ho:=hi.tmp t;cases hg:St.get (u2++σ) (2*t) with
  |none=>rw [hg] at e;cases e
  |tup xs=>rw [hg] at e;cases e
  |v g cs=>
   rw [hg] at e ho
   match cs,e with
   | [y],e=>
     simp [AV.mapC] at e;obtain⟨rfl,rfl⟩:=e;exact ho.1.cp
   | [],e=>grind [AV.mapC]
   |_::_::_,e=>grind [AV.mapC]
 |const v=>
  obtain⟨e,_⟩:=aF h1;unfold gV at e;split at e
  ·cases e;exact rfl
  ·cases e;exact rfl
  ·cases e;exact⟨_,rfl,rfl⟩
  ·split at e
   ·split at e
    ·cases e;exact RdP.nil none 0 _ ⟨rfl,rfl⟩
    grind
   grind
  ·cases e;exact⟨rfl,rfl⟩
  ·cases e;exact⟨rfl,rfl⟩
  grind
 |func f=>
  obtain⟨e,_⟩:=aF h1;cases e;exact⟨rfl,rfl⟩
 |global g=>exact(aE h1).elim
theorem eI(hi:Inv C (St.get (u++σ)) a.tmps E)(i:Nat){ty:TypeId}{x:Operand}{r:AV}(h:Mr (opd tt .take ty x) σ u=some (r,u')):
 ∃E',E'.w=E.w/\E'.bx=E.bx/\Step E E' (fun pl _=>(∃t,x= .tmp t/\pl= .k (2*t))\/pl= .h i) (fun _=>False) False/\
  Inv C (St.get (u' ++σ)) a.tmps E' /\VR E' (aA (St.get (u' ++σ))) (.h i) r (a.eval x)/\(∀s,aA (St.get (u++σ)) s->aA (St.get (u' ++σ)) s):=by
 have triv:∀dk,Step E E dk (fun _=>False) False:=fun dk=>
  ⟨fun b hb=>⟨fun _=>hb,fun o ho=>⟨rfl,ho⟩⟩,fun b k c p hb _=>⟨hb,rfl,rfl⟩,fun _ b o ho=>⟨rfl,ho⟩,fun s h _=>⟨rfl,h,rfl⟩,rfl⟩
 cases x with
 |tmp t=>
  simp only [opd,rdK] at h;obtain⟨b,u1,h1,h2⟩:=aD h;obtain⟨rfl,rfl⟩:=bT h1;obtain⟨_,u2,h3,h4⟩:=aD h2;obtain rfl:=bP h3;obtain⟨rfl,rfl⟩:=aF h4;obtain⟨E',e1,e2,e3,e4,e5⟩:=hi.take t i;refine⟨E',e1,e2,⟨e3.ro,fun b k c p hb hk=>e3.own b k c p hb fun hd=>hk ?_,e3.bor,e3.box,e3.hdr⟩,e4,e5,fun s hs=>dX (by omega) hs⟩;rcases hd with hd|hd
  all_goals grind
 |const v=>
  obtain⟨rfl,rfl⟩:=aF h;exact⟨E,rfl,rfl,triv _,hi,lM tt ty v _,fun s hs=>hs⟩
 |func f=>
  obtain⟨rfl,rfl⟩:=aF h;exact⟨E,rfl,rfl,triv _,hi,⟨⟨rfl,rfl⟩,trivial⟩,fun s hs=>hs⟩
 |global g=>exact(aE h).elim
theorem qA(hi:Inv C (St.get (u++σ)) a.tmps E)(i:Nat){ty:TypeId}{x:Operand}{cs:List CV}(h:Mr (kN tt ty x) σ u=some (cs,u')):
 ∃E' g,E'.w=E.w/\E'.bx=E.bx/\Step E E' (fun pl _=>(∃t,x= .tmp t/\pl= .k (2*t))\/pl= .h i) (fun _=>False) False/\
  Inv C (St.get (u' ++σ)) a.tmps E' /\VR1 E' (aA (St.get (u' ++σ))) (.h i) 0 g cs (a.eval x)/\(∀s,aA (St.get (u++σ)) s->aA (St.get (u' ++σ)) s)/\
  (∀y∈cs,∀k c,¬y.speaks k c):=by
 obtain⟨b,u1,h1,h2⟩:=aD h;obtain⟨E',e1,e2,e3,e4,e5,e6⟩:=eI hi i h1;cases b with
 |tup xs=>grind [aE]
 |none=>grind [aE]
 |v g ys=>
  obtain⟨rfl,rfl⟩:=aF h2;refine⟨E',g,e1,e2,e3,e4,VR1.imp (fun j x v _ hv=> ?_) e5,e6,fun y hy k c=> ?_⟩
  ·cases x with
   |sl f T xs=>cases f <;>first |exact hv|exact hv.one
   |eref k1 c1 p1 n T y off=>exact hv.one
   |apd k1 c1 p1 T xs=>exact hv.one
   |_=>exact hv
  ·obtain⟨z,_,rfl⟩:=Zk.1 hy;cases z with
   |sl f T xs=>cases f <;>exact id
   |_=>exact id
theorem xR(hi:Inv C (St.get (u++σ)) a.tmps E)(i:Nat){ty:TypeId}{x:Operand}{cs:List CV}(h:Mr (mO tt ty x) σ u=some (cs,u')):
 ∃E' g,E'.w=E.w/\E'.bx=E.bx/\Inv C (St.get (u' ++σ)) a.tmps E' /\VR1 E' (aA (St.get (u' ++σ))) (.h i) 0 g cs (a.eval x)/\(∀s,aA (St.get (u++σ)) s->aA (St.get (u' ++σ)) s):=by
 obtain⟨b,u1,h1,h2⟩:=aD h;obtain⟨E',e1,e2,e3,e4,e5,e6⟩:=eI hi i h1;cases b with
 |tup xs=>grind [aE]
 |none=>grind [aE]
 |v g ys=>
  obtain⟨rfl,rfl⟩:=aF h2;exact⟨E',g,e1,e2,e4,e5,e6⟩
theorem p7{bxs:Nat->Prop}{pl:Pl}{g:Bool}{cs:List CV}{v:Value}(h:VR1 E bxs pl 0 g cs v):VR1 E bxs pl 0 g (cs.map CV.noAl) v:=by
 refine VR1.imp (fun j x v _ hv=> ?_) h;cases x with
 |sl f T xs=>cases f <;>first |exact hv|exact hv.one
 |eref k1 c1 p1 n T y off=>exact hv.one
 |apd k1 c1 p1 T xs=>exact hv.one
 |_=>exact hv
theorem xL{cs:List CV}{y:CV}(hy:y∈cs.map CV.noAl)(k c:Nat):¬y.speaks k c:=by
 obtain⟨z,_,rfl⟩:=Zk.1 hy;cases z with
 |sl f T xs=>cases f <;>exact id
 |_=>exact id
end
def gL:CV->Value->Bool
 | .int k n,.int k' m=>k==k' &&n==m
 | .bool b,.bool b' =>b==b'
 | .str s,.string t=>t.data.toList==s
 | .sl .own _ [],.slice none 0 0=>true
 | .val .nilFunc,.nilFunc=>true
 | .undef,v=>v.oneCell'
 |_,_=>false
def bM:List CV->List Value->Bool
 | [],[]=>true
 |x::xs,v::vs=>gL x v&&bM xs vs
 |_,_=>false
theorem zQ{x:CV}{v:Value}(h:gL x v=true)(E:Env)(bxs:Nat->Prop)(pl:Pl)(c:Nat):VRc E bxs pl c x v:=by
 unfold gL at h;split at h
 ·simp at h;obtain⟨rfl,rfl⟩:=h;exact rfl
 ·simp at h;subst h;exact rfl
 ·simp at h;exact⟨_,rfl,h⟩
 ·exact RdP.nil none 0 _ ⟨rfl,rfl⟩
 ·exact⟨rfl,rfl⟩
 ·exact h
 grind
theorem kT{xs:List CV}(E:Env)(bxs:Nat->Prop)(pl:Pl):∀ {vs:List Value} (c:Nat),bM xs vs=true->VRs E bxs pl c xs vs:=by
 induction xs with
 |nil=>grind [bM,VRs]
 |cons x xs ih=>
  intro vs c h;cases vs with
  |nil=>grind [bM]
  |cons v vs=>
   simp [bM] at h;exact⟨zQ h.1 E bxs pl c,ih _ h.2⟩
theorem kS{xs:List CV}:∀ {vs:List Value},bM xs vs=true->vs.length=xs.length:=by
 induction xs with
 |nil=>grind [bM]
 |cons x xs ih=>
  intro vs h;cases vs with
  |nil=>grind [bM]
  |cons v vs=>grind [bM]
structure TIok (P:Program) (t:TypeId) (i:TI):Prop where
 info:∃ti d,P.info? t=some ti/\ti.size=i.sz/\P.underlying t=some d/\(match d with | .struct _=>true| .array _ _=>true|_=>false)=i.agg/\(i.agg=false->i.sz=1)/\
  (∀z,i.zero=some z->∃v,ti.zero=some v/\bM z v.cells.toList=true)
 fields:i.offs=[]\/∃fs:Array Field,P.underlying t=some (.struct fs)/\∀(f p:Nat),i.offs[f]? =some p->∃(fl:Field) (tj:TypeInfo),fs[f]? =some fl/\fl.offset=p/\P.info? fl.type=some tj/\tj.size≠0/\
  i.fsz[f]? =some tj.size
 aggs:∀fs:Array Field,P.underlying t=some (.struct fs)->∀(f p n:Nat) (fl:Field),i.offs[f]? =some p->i.fsz[f]? =some n->fs[f]? =some fl->∃d,P.underlying fl.type=some d/\(match d with | .struct _=>true| .array _ _=>true|_=>false)= !(n.beq 1)
 built:∀z,i.zero=some z->i.agg=true->∃(fs:Array Field) (places:List (Nat×Nat)),P.underlying t=some (.struct fs)/\fs.toList.mapM (fun f=>(P.info? f.type).map fun j=>(f.offset,j.size))=some places/\
  ∀(f p n:Nat),i.offs[f]? =some p->i.fsz[f]? =some n->places[f]? =some (p,n)
 elem:∀e T,i.elem=some (e,T)->P.underlying t=some (.slice e)/\∃te v,P.info? e=some te/\te.size=T.sz/\0<te.bytes/\te.bytes<=256/\te.zero=some v/\
  bM (T.enc .own T.dflt) v.cells.toList=true
 u8:∀e,i.elem=some (e,.byte)->P.underlying e=some (.int .u8)
 ik:∀k,i.ik=some k->P.underlying t=some (.int k)
 str:i.isStr=true->P.underlying t=some .string
 bool:i.isBool=true->P.underlying t=some .bool
 fn:i.isFn=true->∃x y z,P.underlying t=some (.func x y z)
 same:i.same=true->∀(a b:Array Value) (w:World) (as bs:List CV) (r:Bool) (E:Env) (bxs:Nat->Prop) (pl:Pl),bZ as bs=some r->gC i.zero as=true->gC i.zero bs=true->VRs E bxs pl 0 as a.toList->VRs E bxs pl 0 bs b.toList->
  ∀op,(op= .eql\/op= .neq)->∀x y,(do eqGuard op t x y (.agg a) (.agg b);binOp op t (.agg a) (.agg b):Sem Value).run P w= .ok (.bool (if op= .eql then r else !r)) w
def aP(P:Program)(tt:TT):Prop:=∀t i,tt.get t=some i->TIok P t i
def Good(C:Ctx)(σ:St)(a:Act)(w:World)(o:Oper)(v:AV):Prop:=
 ∃val w',(execOp a.eval o).run C.P w= .ok (.value val) w' /\Hand C σ a.tmps w' 0 v val
section
variable {C:Ctx} {σ:St} {a:Act} {E:Env} {u u' :Ups} {tt:TT} {o:Oper} {md:Md} {v:AV} {ob:List Prop} {ty:TypeId}
theorem qB(hi:Inv C (St.get (u++σ)) a.tmps E){x:Operand}{r:AV}(h:Mr (opd tt md ty x) σ u=some (r,u')):
 Hand C (u' ++σ) a.tmps E.w 0 r (a.eval x):=by
 cases md with
 |cp=>obtain⟨rfl,hv⟩:=eH hi h;exact⟨E,rfl,hi,hv _⟩
 |take=>obtain⟨E',e1,_,_,e4,e5,_⟩:=eI hi 0 h;exact⟨E',e1,e4,e5⟩
 |ref=>
  cases x with
  |tmp t=>
   simp only [opd,rdK] at h;obtain⟨b,u1,h1,h2⟩:=aD h;obtain⟨rfl,rfl⟩:=bT h1;have ho:=hi.tmp t;cases hg:St.get (u1++σ) (2*t) with
   |none=>grind [aE]
   |tup xs=>grind [aE]
   |v g cs=>
    rw [hg] at h2 ho;obtain⟨rfl,rfl⟩:=aF h2;refine⟨E,rfl,hi,?_⟩;have key:∀(cs:List CV) (c:Nat) (vs:List Value),VRs E (aA (St.get (u' ++σ))) (.k (2*t)) c cs vs->VRs E (aA (St.get (u' ++σ))) (.h 0) c (cV (2*t) c cs) vs:=by
     intro cs
     induction cs with
     |nil=>grind [VRs,cV]
     |cons y ys ih=>
      intro c vs h;cases vs with
      |nil=>exact h.elim
      |cons w ws=>exact⟨h.1.alias,ih _ _ h.2⟩
    cases g with
    |true=>obtain⟨vs,e,hv⟩:=ho;exact⟨vs,e,key _ _ _ hv⟩
    |false=>exact key _ _ _ ho
  |const v=>obtain⟨rfl,rfl⟩:=aF h;exact⟨E,rfl,hi,lM tt ty v _⟩
  |func f=>obtain⟨rfl,rfl⟩:=aF h;exact⟨E,rfl,hi,⟨rfl,rfl⟩,trivial⟩
  |global g=>exact(aE h).elim
theorem cC{r:AV}(h:Mr (cB r) σ u=some ((v,ob),u')):v=r/\ob=[]/\u' =u:=by
 obtain⟨e,rfl⟩:=aF h
 grind
theorem aQ{r:CV}{l:List Prop}(h:Mr (aH r l) σ u=some ((v,ob),u')):v= .v false [r]/\ob=l/\u' =u:=by
 obtain⟨e,rfl⟩:=aF h
 grind
theorem Good.cell{w:World}(hi:Inv C (St.get (u++σ)) a.tmps E)(hw:E.w=w){c:CV}{val:Value}(hr:(execOp a.eval o).run C.P w= .ok (.value val) w)
 (hc:VRc E (aA (St.get (u++σ))) (.h 0) 0 c val):Good C (u++σ) a w o (.v false [c]):=
 ⟨val,w,hr,E,hw,hi,hc,trivial⟩
theorem pP{w:World}(hi:Inv C (St.get (u++σ)) a.tmps E)(hw:E.w=w){x:Operand}(ho:o.op= .move x\/o.op= .assign x)(h:Mr (opd tt md ty x) σ u=some (v,u')):
 Good C (u' ++σ) a w o v:=by
 refine⟨a.eval x,w,?_,by grind [qB]⟩;rcases ho with ho|ho <;>(unfold execOp;rw [ho];rfl)
theorem qJ{w:World}(hi:Inv C (St.get (u++σ)) a.tmps E)(hw:E.w=w){c x y:Operand}{b:Bool}(hc:a.eval c= .bool b)(ho:o.op= .pick c x y)(h:Mr (opd tt md ty (if b then x else y)) σ u=some (v,u')):
 Good C (u' ++σ) a w o v:=by
 refine⟨a.eval (if b then x else y),w,?_,by grind [qB]⟩;unfold execOp;rw [ho];cases b <;>simp [hc,asBool]
theorem xJ{w:World}(hi:Inv C (St.get (u++σ)) a.tmps E)(hw:E.w=w){x:Operand}{s off:Nat}(ho:o.op= .nilCheck x)(h:Mr (opc tt ty x) σ u=some (.ptr s off,u')):
 Good C (u' ++σ) a w o (.v false [.ptr s off]):=by
 obtain⟨rfl,hv⟩:=bO hi h;have:=hv (.h 0) 0;refine Good.cell hi hw (val:=a.eval x) ?_ this;unfold execOp;rw [ho];simp [this.1]
theorem tG(hi:Inv C (St.get (u++σ)) a.tmps E):∀(xs:List Operand) (ss:List Nat) (u' :Ups),Mr (jB tt xs) σ u=some (ss,u')->
 u' =u/\xs.map a.eval=(ss.map fun s=>Value.pointer (some ⟨E.bx s,0,none⟩))/\∀s∈ss,aA (St.get (u++σ)) s:=by
 intro xs
 induction xs with
 |nil=>
  intro ss u' h;obtain⟨rfl,rfl⟩:=aF h
  grind
 |cons x xs ih=>
  intro ss u' h;obtain⟨c,u1,h1,h2⟩:=aD h;obtain⟨rfl,hv⟩:=bO hi h1;split at h2
  ·rename_i s;obtain⟨ss',u2,h3,h4⟩:=aD h2;obtain⟨rfl,e1,e2⟩:=ih ss' u2 h3;obtain⟨rfl,rfl⟩:=aF h4;have hs:=hv (.h 0) 0;refine⟨rfl,?_,fun s' hs' => ?_⟩
   ·rw [ZX,ZX,e1,hs.1]
   ·rcases Zh.1 hs' with rfl|hs'
    ·exact hs.2
    grind
  grind [aE]
theorem wR{w:World}(hi:Inv C (St.get (u++σ)) a.tmps E)(hw:E.w=w){k:FuncId}{first caps:Array Operand}{ss:List Nat}(ho:o.op= .makeFunc (.func k) first caps)(hf:first.toList.isEmpty=true)(h:Mr (jB tt caps.toList) σ u=some (ss,u')):
 Good C (u' ++σ) a w o (.v false [.clo k ss]):=by
 obtain⟨rfl,e1,e2⟩:=tG hi _ _ _ h;have hf' :first= #[]:=by
  grind
 have hv:VRc E (aA (St.get (u' ++σ))) (.h 0) 0 (.clo k ss) (.func (.func k) #[] (caps.map a.eval)):=by
  refine⟨?_,e2⟩;rw [<-e1];cases caps with
  |mk l=>simp
 refine Good.cell hi hw (val:= .func (.func k) #[] (caps.map a.eval)) ?_ hv;unfold execOp;rw [ho,hf'];simp [Instr.makeFunc]
theorem gR(t:ByteArray):t.data.toList.length=t.size:=by cases t;rfl
theorem sT{op:BinOp}{t:TypeId}{x' y' :Operand}{x y:CV}{vx vy:Value}{r:CV}(w:World)(h:eS op x y=some (r,ob))(hob:∀p∈ob,p)
 {E:Env} {bxs:Nat->Prop} {pl:Pl} {i:Nat} (hx:VRc E bxs pl i x vx) (hy:VRc E bxs pl i y vy):
 ∃val,(do eqGuard op t x' y' vx vy;binOp op t vx vy:Sem Value).run C.P w= .ok val w/\VRc E bxs pl i r val:=by
 have hg:∀k n v,(eqGuard op t x' y' (.int k n) v).run C.P w= .ok () w:=by intro k n v;unfold eqGuard;split <;>simp
 have hg2:∀s v,(eqGuard op t x' y' (.string s) v).run C.P w= .ok () w:=by intro k v;unfold eqGuard;split <;>simp
 cases x with
 |int k n=>
  cases y with
  |int k' n' =>
   obtain rfl:vx= .int k n:=hx;obtain rfl:vy= .int k' n' :=hy;simp only [Sem.run_bind,hg,Result.andThen_ok]
   cases op <;>simp only [eS] at h <;>(try split at h) <;>(try subst_vars) <;>(try (cases h;done)) <;>
    (try simp only [ZK,Yd] at h) <;>(try (obtain⟨rfl,rfl⟩:=h)) <;>(try (simp at h;done))
   case int.int.add.isTrue=>exact⟨_,by first |(simp [binOp,Op.intArith];done) |(simp [binOp,Op.intArith];rfl),rfl⟩
   case int.int.sub.isTrue=>exact⟨_,by first |(simp [binOp,Op.intArith];done) |(simp [binOp,Op.intArith];rfl),rfl⟩
   case int.int.mul.isTrue=>exact⟨_,by first |(simp [binOp,Op.intArith];done) |(simp [binOp,Op.intArith];rfl),rfl⟩
   case int.int.quo.isTrue=>
    have:=hob _ (Zo.2 rfl);exact⟨_,by first |(simp [binOp,Op.intDiv,this];done) |(simp [binOp,Op.intDiv,this];rfl),rfl⟩
   case int.int.rem.isTrue=>
    have:=hob _ (Zo.2 rfl);exact⟨_,by first |(simp [binOp,Op.intDiv,this];done) |(simp [binOp,Op.intDiv,this];rfl),rfl⟩
   case int.int.and.isTrue=>exact⟨_,by first |(simp [binOp,Op.intBits];done) |(simp [binOp,Op.intBits];rfl),rfl⟩
   case int.int.xor.isTrue=>exact⟨_,by first |(simp [binOp,Op.intBits];done) |(simp [binOp,Op.intBits];rfl),rfl⟩
   case int.int.shl.isTrue=>
    have:=hob _ (Zo.2 rfl);have h1:¬n' <0:=by omega
    have h2:min n'.toNat (IntKind.u64).bits=n'.toNat:=by show min n'.toNat 64=n'.toNat;omega
    exact⟨_,by simp only [binOp,Op.shift,h1,if_false,h2];rfl,rfl⟩
   case int.int.shr.isTrue=>
    rename_i hk;have:=hob _ (Zo.2 rfl);have h1:¬n' <0:=by omega
    have h2:min n'.toNat (IntKind.bits k)=n'.toNat:=by
     grind [IntKind.bits]
    exact⟨_,by simp only [binOp,Op.shift,h1,if_false,h2];rfl,rfl⟩
   all_goals exact⟨_,by first |(simp [binOp,Op.intCmp];done) |(simp [binOp,Op.intCmp];rfl),rfl⟩
  |_=>simp [eS] at h
 |str s=>
  cases y with
  |str s' =>
   obtain⟨tx,rfl,rfl⟩:=hx;obtain⟨ty,rfl,rfl⟩:=hy;simp only [Sem.run_bind,hg2,Result.andThen_ok]
   cases op <;>simp only [eS] at h <;>(try (cases h;done)) <;>
    (try simp only [ZK,Yd] at h) <;>(try (obtain⟨rfl,rfl⟩:=h)) <;>(try (simp at h;done))
   case str.str.add=>
    have:=hob _ (Zo.2 rfl);simp only [gR] at this;have h1:¬((tx.size+ty.size:Nat):Int)>IntKind.i64.max:=by show ¬((tx.size+ty.size:Nat):Int)>9223372036854775807;grind [Lim]
    refine⟨.string (tx++ty),by simp only [binOp,Op.stringOp,h1,if_false];rfl,_,rfl,by simp⟩
   all_goals exact⟨_,by simp only [binOp,Op.stringOp,ByteArray.toList_eq];rfl,rfl⟩
  |_=>simp [eS] at h
 |_=>simp [eS] at h
end
end Go.Ab
end
section
namespace Go.Ab
def bJ(r:Result Value):Result Next:=r.andThen fun v w=> .ok (.value v) w
def zH(r:Result Unit):Result Next:=r.andThen fun _ w=> .ok .skip w
section
variable {P:Program} {ρ:Operand->Value} {o:Oper} {w:World}
theorem oQ{op:UnOp}{t:TypeId}{x:Operand}(h:o.op= .unOp op t x):(execOp ρ o).run P w=bJ ((Op.unary op (ρ x)).run P w):=by
 unfold execOp;rw [h];show(Op.unary op (ρ x) >>= fun v=>pure (.value v):Sem Next).run P w=_;rw [Sem.run_bind];rfl
theorem eV{op:BinOp}{t s:TypeId}{x y:Operand}(h:o.op= .binOp op t x y s):
 (execOp ρ o).run P w=bJ ((do eqGuard op t x y (ρ x) (ρ y);binOp op t (ρ x) (ρ y):Sem Value).run P w):=by
 unfold execOp;rw [h];show((do eqGuard op t x y (ρ x) (ρ y);binOp op t (ρ x) (ρ y):Sem Value) >>= fun v=>pure (.value v):Sem Next).run P w=_;rw [Sem.run_bind];rfl
theorem uM{t:TypeId}{x y:Operand}(h:o.op= .index t x y):(execOp ρ o).run P w=bJ ((Instr.index t (ρ x) (ρ y)).run P w):=by
 unfold execOp;rw [h];show(Instr.index t (ρ x) (ρ y) >>= fun v=>pure (.value v):Sem Next).run P w=_;rw [Sem.run_bind];rfl
theorem uN{t:TypeId}{x y:Operand}(h:o.op= .indexAddr t x y):(execOp ρ o).run P w=bJ ((Instr.indexAt t (ρ x) (ρ y)).run P w):=by
 unfold execOp;rw [h];show(Instr.indexAt t (ρ x) (ρ y) >>= fun v=>pure (.value v):Sem Next).run P w=_;rw [Sem.run_bind];rfl
theorem uL{t:TypeId}{x:Operand}{f:Nat}(h:o.op= .fieldAddr t x f):(execOp ρ o).run P w=bJ ((Instr.fieldAt t (ρ x) f).run P w):=by
 unfold execOp;rw [h];show(Instr.fieldAt t (ρ x) f >>= fun v=>pure (.value v):Sem Next).run P w=_;rw [Sem.run_bind];rfl
theorem lS{t:TypeId}{x:Operand}{lo hi mx:Option Operand}(h:o.op= .slice t x lo hi mx):
 (execOp ρ o).run P w=bJ ((Instr.sliceAt t (ρ x) (lo.map ρ) (hi.map ρ) (mx.map ρ)).run P w):=by
 unfold execOp;rw [h];show(Instr.sliceAt t (ρ x) (lo.map ρ) (hi.map ρ) (mx.map ρ) >>= fun v=>pure (.value v):Sem Next).run P w=_;rw [Sem.run_bind];rfl
theorem uK{t:TypeId}{x:Operand}{f:Nat}(h:o.op= .field t x f):(execOp ρ o).run P w=bJ ((Instr.field t (ρ x) f).run P w):=by
 unfold execOp;rw [h];show(Instr.field t (ρ x) f >>= fun v=>pure (.value v):Sem Next).run P w=_;rw [Sem.run_bind];rfl
theorem oM{x:Operand}{i:Nat}(h:o.op= .extract x i):(execOp ρ o).run P w=bJ ((Instr.extract (ρ x) i).run P w):=by
 unfold execOp;rw [h];show(Instr.extract (ρ x) i >>= fun v=>pure (.value v):Sem Next).run P w=_;rw [Sem.run_bind];rfl
theorem lR{s d:TypeId}{x:Operand}(h:o.op= .convert s d x):(execOp ρ o).run P w=bJ ((convert s d (ρ x)).run P w):=by
 unfold execOp;rw [h];show(convert s d (ρ x) >>= fun v=>pure (.value v):Sem Next).run P w=_;rw [Sem.run_bind];rfl
theorem uO{t:TypeId}{l c:Operand}(h:o.op= .makeSlice t l c):(execOp ρ o).run P w=bJ ((Instr.makeSlice t (ρ l) (ρ c)).run P w):=by
 unfold execOp;rw [h];show(Instr.makeSlice t (ρ l) (ρ c) >>= fun v=>pure (.value v):Sem Next).run P w=_;rw [Sem.run_bind];rfl
theorem oO{t:TypeId}{x:Operand}(h:o.op= .load t x):(execOp ρ o).run P w=bJ ((Instr.loadAt t (ρ x)).run P w):=by
 unfold execOp;rw [h];show(Instr.loadAt t (ρ x) >>= fun v=>pure (.value v):Sem Next).run P w=_;rw [Sem.run_bind];rfl
theorem lT{t:TypeId}{x y:Operand}(h:o.op= .store t x y):(execOp ρ o).run P w=zH ((Instr.storeAt t (ρ x) (ρ y)).run P w):=by
 unfold execOp;rw [h];show(Instr.storeAt t (ρ x) (ρ y) >>= fun _=>pure .skip:Sem Next).run P w=_;rw [Sem.run_bind];rfl
theorem uG{t:TypeId}(h:o.op= .alloc t):(execOp ρ o).run P w=bJ ((Instr.alloc t true (.tuple #[])).run P w):=by
 unfold execOp;rw [h];show(Instr.alloc t true (.tuple #[]) >>= fun v=>pure (.value v):Sem Next).run P w=_;rw [Sem.run_bind];rfl
theorem uH{t:TypeId}{x:Operand}(h:o.op= .box t x):(execOp ρ o).run P w=bJ ((Instr.box t (ρ x)).run P w):=by
 unfold execOp;rw [h];show(Instr.box t (ρ x) >>= fun v=>pure (.value v):Sem Next).run P w=_;rw [Sem.run_bind];rfl
theorem uI{t:TypeId}{ps:Array (Nat×Operand)}(h:o.op= .build t ps):(execOp ρ o).run P w=bJ ((Instr.build t (ps.map fun x=>(x.1,ρ x.2))).run P w):=by
 unfold execOp;rw [h];show(Instr.build t (ps.map fun x=>(x.1,ρ x.2)) >>= fun v=>pure (.value v):Sem Next).run P w=_;rw [Sem.run_bind];rfl
theorem uJ{t:TypeId}{n:Nat}{ps:Array (Nat×Operand)}(h:o.op= .buildSlice t n ps):
 (execOp ρ o).run P w=bJ ((Instr.buildSlice t n (ps.map fun x=>(x.1,ρ x.2))).run P w):=by
 unfold execOp;rw [h];show(Instr.buildSlice t n (ps.map fun x=>(x.1,ρ x.2)) >>= fun v=>pure (.value v):Sem Next).run P w=_;rw [Sem.run_bind];rfl
theorem oN{c:Call}(h:o.op= .call c)(hc:c.callee= .builtin .len):(execOp ρ o).run P w=bJ ((Builtin.len_ c.argTypes o.type (c.args.map ρ)).run P w):=by
 unfold execOp;rw [h];show((resolve ρ c o.type >>= fun d=>invoke d.target d.args):Sem Next).run P w=_;simp only [resolve,hc,Sem.run_bind,Sem.run_pure,Result.andThen_ok,invoke];show(Builtin.len_ c.argTypes o.type (c.args.map ρ) >>= fun v=>pure (.value v):Sem Next).run P w=_;rw [Sem.run_bind];rfl
theorem oJ{c:Call}(h:o.op= .call c)(hc:c.callee= .builtin .append):(execOp ρ o).run P w=bJ ((Builtin.append_ c.argTypes o.type (c.args.map ρ)).run P w):=by
 unfold execOp;rw [h];show((resolve ρ c o.type >>= fun d=>invoke d.target d.args):Sem Next).run P w=_;simp only [resolve,hc,Sem.run_bind,Sem.run_pure,Result.andThen_ok,invoke];show(Builtin.append_ c.argTypes o.type (c.args.map ρ) >>= fun v=>pure (.value v):Sem Next).run P w=_;rw [Sem.run_bind];rfl
theorem uQ{c:Call}(h:o.op= .call c)(hc:c.callee= .builtin .min):(execOp ρ o).run P w=bJ ((Builtin.min_ c.argTypes o.type (c.args.map ρ)).run P w):=by
 unfold execOp;rw [h];show((resolve ρ c o.type >>= fun d=>invoke d.target d.args):Sem Next).run P w=_;simp only [resolve,hc,Sem.run_bind,Sem.run_pure,Result.andThen_ok,invoke];show(Builtin.min_ c.argTypes o.type (c.args.map ρ) >>= fun v=>pure (.value v):Sem Next).run P w=_;rw [Sem.run_bind];rfl
theorem uP{c:Call}(h:o.op= .call c)(hc:c.callee= .builtin .max):(execOp ρ o).run P w=bJ ((Builtin.max_ c.argTypes o.type (c.args.map ρ)).run P w):=by
 unfold execOp;rw [h];show((resolve ρ c o.type >>= fun d=>invoke d.target d.args):Sem Next).run P w=_;simp only [resolve,hc,Sem.run_bind,Sem.run_pure,Result.andThen_ok,invoke];show(Builtin.max_ c.argTypes o.type (c.args.map ρ) >>= fun v=>pure (.value v):Sem Next).run P w=_;rw [Sem.run_bind];rfl
theorem dT(v:Value)(w:World):bJ (.ok v w)= .ok (.value v) w:=rfl
end
end Go.Ab
end
section
namespace Go.Ab
variable [Inhabited Lb]
theorem dU(b o n:Nat):(⟨b,o,none⟩:Addr).add n=⟨b,o+n,none⟩:=by grind [Addr.add]
section
variable {C:Ctx} {σ:St} {a:Act} {E:Env} {u u' u'' :Ups} {tt:TT} {o:Oper} {md:Md} {v:AV} {ob:List Prop} {ty:TypeId}
theorem aU{α:Type}{c:Bool}{x:M α}{r:α×Ups}(h:Mr (cond c x bad) σ u=some r):c=true/\Mr x σ u=some r:=by
 grind [aE]
theorem zN{w:World}(hi:Inv C (St.get (u++σ)) a.tmps E)(hw:E.w=w){op:UnOp}{t:TypeId}{x:Operand}(ho:o.op= .unOp op t x)
 {c:CV} (h:Mr (opc tt 0 x) σ u=some (c,u')) (h2:Mr (match op,c with | .not,.bool b=>aH (.bool (!b)) | .neg,.int k n=>aH (.int k (k.wrap (0 - n))) |_,_=>(bad:M Eff)) σ u' =some ((v,ob),u'')):
 Good C (u'' ++σ) a w o v:=by
 obtain⟨rfl,hv⟩:=bO hi h;have hx:=hv (.h 0) 0;split at h2
 ·obtain⟨rfl,_,rfl⟩:=aQ h2;refine Good.cell hi hw (val:= .bool (!_)) ?_ rfl;rw [oQ ho,show a.eval x=_ from hx];rfl
 ·obtain⟨rfl,_,rfl⟩:=aQ h2;refine Good.cell hi hw (val:= .int _ _) ?_ rfl;rw [oQ ho,show a.eval x=_ from hx];rfl
 grind [aE]
theorem vJ(t:ByteArray)(n:Nat)(h:n<t.size):(t.data.toList.getD n 0)=t[n]:=by
 have:n<t.data.toList.length:=by simp_all
 rw [Z4,Zv this];cases t;rfl
theorem wA{w:World}(htt:aP C.P tt)(hi:Inv C (St.get (u++σ)) a.tmps E)(hw:E.w=w){t:TypeId}{x ix:Operand}(ho:o.op= .index t x ix)
 {j:TI} (hj:tt.get t=some j) (hs:j.isStr=true) {s:Str} {k:IntKind} {i:Int} (hx:∀pl i,VRc E (aA (St.get (u++σ))) pl i (.str s) (a.eval x))
 (hy:∀pl i',VRc E (aA (St.get (u++σ))) pl i' (.int k i) (a.eval ix)) (hb:0<=i/\i<s.length):
 Good C (u++σ) a w o (.v false [.int .u8 ((s.getD i.toNat 0).toNat:Int)]):=by
 obtain⟨tx,e1,rfl⟩:=hx (.h 0) 0;have e2:a.eval ix= .int k i:=hy (.h 0) 0;have h1:C.P.underlying t=some .string:=(htt t j hj).str hs;have hb2:0<=i/\i<tx.size:=by simp_all
 refine Good.cell hi hw (val:= .int .u8 _) ?_ (by exact rfl);rw [uM ho,e1,e2,run_index_string w t tx k i h1,dif_pos hb2,vJ _ _ (by omega)]
 rfl
theorem wE{w:World}(htt:aP C.P tt)(hi:Inv C (St.get (u++σ)) a.tmps E)(hw:E.w=w){c:Call}{t:TypeId}{x:Operand}(ho:o.op= .call c)(hc:c.callee= .builtin .len)
 (hargs:c.args.toList=[x]) (ht:c.argTypes.getD 0 0=t) (hat:c.argTypes.size=1) (h:Mr (l9 tt t x) σ u=some ((v,ob),u')):
 Good C (u' ++σ) a w o v:=by
 unfold l9 at h;split at h
 ·rename_i i hti;obtain⟨y,u1,h1,h2⟩:=aD h;obtain⟨rfl,hv⟩:=bO hi h1;have hx:=hv (.h 0) 0;have hA:c.args= #[x]:=by grind
  have hT:c.argTypes= #[t]:=by
   apply Yg
   match hl:c.argTypes.toList,(by grind:c.argTypes.toList.length=1) with
   | [z],_=>
     have:c.argTypes= #[z]:=by grind
     simp_all
  unfold pG at h2;split at h2
  ·obtain⟨hs,h2⟩:=aU h2;obtain⟨rfl,_,rfl⟩:=aQ h2;obtain⟨tx,e1,e2⟩:=hx;refine Good.cell hi hw (val:=goInt tx.size) ?_ (by rw [<-e2,gR];rfl);rw [oN ho hc,hA,hT,show #[x].map a.eval= #[.string tx] from by grind,run_len_string w t _ tx ((htt t i hti).str hs)];rfl
  ·obtain⟨hs,h2⟩:=aU h2;obtain⟨rfl,_,rfl⟩:=aQ h2;obtain⟨ad,cap,e1,_⟩:=RdP.shape hx;rw [Zm] at e1;obtain⟨⟨e,U⟩,hel⟩:∃p,i.elem=some p:=by
    grind [TI.isSlice]
   have h1:=((htt t i hti).elem e U hel).1;have h1' :C.P.underlying t=some (.slice (C.P.elem t)):=by grind [Program.elem]
   refine Good.cell hi hw (val:=goInt _) ?_ (by show _=Value.int _ _;rfl);rw [oN ho hc,hA,hT,show #[x].map a.eval= #[.slice ad _ cap] from by rw [<-e1];simp,run_len_slice w t _ ad _ cap h1'];rfl
  grind [aE]
 grind [aE]
theorem iC{i:TI}{T:Ty}(h:i.isOf T=true):∃e,i.elem=some (e,T):=by
 grind [TI.isOf]
theorem uU{w:World}(htt:aP C.P tt)(hi:Inv C (St.get (u++σ)) a.tmps E)(hw:E.w=w){t:TypeId}{x:Operand}{f p:Nat}(ho:o.op= .fieldAddr t x f)
 {i:TI} (hti:tt.get t=some i) (hp:i.offs[f]? =some p) {c:CV} (h:Mr (opc tt 0 x) σ u=some (c,u'))
 (h2:Mr (match c with | .ptr s off=>aH (.ptr s (off+p)) | .eptr g T y off=>aH (.eptr g T y (off+p)) | .eref k c q j T y off=>aH (.eref k c q j T y (off+p)) |_=>(bad:M Eff)) σ u' =some ((v,ob),u'')):
 Good C (u'' ++σ) a w o v:=by
 obtain⟨rfl,hv⟩:=bO hi h;have hx:=hv (.h 0) 0;obtain⟨fs,e1,e2⟩:∃fs:Array Field,C.P.underlying t=some (.struct fs)/\∀(f p:Nat),i.offs[f]? =some p->∃(fl:Field) (tj:TypeInfo),fs[f]? =some fl/\fl.offset=p/\C.P.info? fl.type=some tj/\tj.size≠0/\i.fsz[f]? =some tj.size:=by
  rcases(htt t i hti).fields with h|h
  all_goals grind
 obtain⟨fl,tj,g1,g2,g3,g4,_⟩:=e2 f p hp;have run:∀b o',a.eval x= .pointer (some ⟨b,o',none⟩)->(execOp a.eval o).run C.P w= .ok (.value (.pointer (some ⟨b,o' +p,none⟩))) w:=by
  intro b o' he;rw [uL ho,he];simp [Instr.fieldAt,run_underlying e1,g1,Instr.sureAddr,fieldPlace,sizeOf,typeInfo,g3,g4,dU,g2,dT]
 split at h2
 ·obtain⟨rfl,_,rfl⟩:=aQ h2;exact Good.cell hi hw (run _ _ hx.1) ⟨rfl,hx.2⟩
 ·obtain⟨rfl,_,rfl⟩:=aQ h2;obtain⟨hf,b,o',e,r⟩:=hx;refine Good.cell hi hw (run _ _ e) ⟨hf,b,o',?_,r⟩
  grind
 ·obtain⟨rfl,_,rfl⟩:=aQ h2;obtain⟨b,e,r⟩:=hx;refine Good.cell hi hw (run _ _ e) ⟨b,?_,r⟩
  grind
 grind [aE]
theorem yQ{P:Program}{w:World}{t e:TypeId}{te:TypeInfo}{b off n cap:Nat}{k:IntKind}{i:Int}(h:P.underlying t=some (.slice e))(he:P.info? e=some te)(hb:0<=i/\i<n):
 (Instr.indexAt t (.slice (some ⟨b,off,none⟩) n cap) (.int k i)).run P w= .ok (.pointer (some ⟨b,off+i.toNat*te.size,none⟩)) w:=by
 simp [Instr.indexAt,asIntOf,run_underlying h,hb,sizeOf,typeInfo,he,dU]
theorem v8{w:World}(htt:aP C.P tt)(hi:Inv C (St.get (u++σ)) a.tmps E)(hw:E.w=w){t:TypeId}{x ix:Operand}(ho:o.op= .indexAddr t x ix)
 {i:TI} (hti:tt.get t=some i) {c d:CV} (hc:∀pl i,VRc E (aA (St.get (u++σ))) pl i c (a.eval x))
 (hd:∀pl i,VRc E (aA (St.get (u++σ))) pl i d (a.eval ix)) (hs:gG i c=true) (h2:Mr (lY c d) σ u=some ((v,ob),u')) (hob:∀p∈ob,p):
 Good C (u' ++σ) a w o v:=by
 have core:∀(f:Fl) (T:Ty) (xs:List T.den) (k:IntKind) (n:Int),c= .sl f T xs->d= .int k n->0<=n/\n<xs.length->
  ∃b off,(execOp a.eval o).run C.P w= .ok (.value (.pointer (some ⟨b,off+n.toNat*T.sz,none⟩))) w/\
   (∃cap,a.eval x= .slice (some ⟨b,off,none⟩) xs.length cap/\qF E (.h 0) 0 f [] (a.eval x) T.sz)/\
   ∃uu:Nat->Value,∀j (hj:j<(T.toD (xs.getD n.toNat T.dflt)).length),E.w.cell? ⟨b,off+n.toNat*T.sz+j,none⟩=some (uu j)/\okF E (.h 0) 0 f [] b (off+n.toNat*T.sz+j)/\
    RdP E.w (fun p=>okF E (.h 0) 0 f ((n.toNat,j)::p)) (fun p=>qF E (.h 0) 0 f ((n.toNat,j)::p)) (uu j) ((T.toD (xs.getD n.toNat T.dflt))[j]):=by
  intro f T xs k n hcx hdx hn;subst hcx hdx;obtain⟨e,hel⟩:=iC hs;obtain⟨g1,te,vz,g2,g3,_⟩:=(htt t i hti).elem e T hel;have hx:RdP E.w _ _ (a.eval x) (.sl T.sz (xs.map T.toD)):=hc (.h 0) 0;obtain⟨b,off,cap,k1,k2,k3,k4,uu,k5,k6⟩:=hx.cells (by grind [jN]);have hy:a.eval ix= .int k n:=hd (.h 0) 0;have hlen:(xs.map T.toD).length=xs.length:=Zm _;rw [hlen] at k1;have hlt:n.toNat<xs.length:=by omega
  refine⟨b,off,?_,⟨cap,k1,k4⟩,uu n.toNat,fun j hj=> ?_⟩
  ·rw [uN ho,k1,hy,yQ g1 g2 hn,g3];rfl
  grind
 unfold lY at h2;split at h2
 ·obtain⟨rfl,rfl,rfl⟩:=aQ h2;have hn:=hob _ (Zo.2 rfl);obtain⟨b,off,r,⟨cap,e,ht⟩,uu,hu⟩:=core _ _ _ _ _ rfl rfl hn;rename_i k' c' p' T xs kk n;rw [e] at ht;have ht:Tip E (.arr (.k k') c' (p' ++ [])) (.slice (some ⟨b,off,none⟩) xs.length cap) T.sz:=ht;rw [Z8] at ht;unfold Tip at ht
  match off,ht with
  |0,ht=>
   obtain⟨t1,t2,t3,tcs,tty,tlo,thi,t4,t5,t6⟩:=ht;refine Good.cell hi hw r ⟨b,by simp,t1,?_,uu,fun j hj=>⟨by grind,(hu j hj).2.2⟩⟩;rw [t2];have:(n.toNat+1)<=xs.length:=by omega
   refine⟨Z1 _ this,fun o ho=> ?_⟩;have hle:xs.length*T.sz<=cap*T.sz:=Z1 _ t3
   grind [World.frozen?]
 ·obtain⟨rfl,rfl,rfl⟩:=aQ h2;have hn:=hob _ (Zo.2 rfl);obtain⟨b,off,r,_,uu,hu⟩:=core _ _ _ _ _ rfl rfl hn;exact Good.cell hi hw r ⟨.inl rfl,b,_,rfl,uu,fun j hj=>⟨(hu j hj).1,(hu j hj).2.1,(hu j hj).2.2⟩⟩
 ·obtain⟨rfl,rfl,rfl⟩:=aQ h2;have hn:=hob _ (Zo.2 rfl);obtain⟨b,off,r,_,uu,hu⟩:=core _ _ _ _ _ rfl rfl hn;exact Good.cell hi hw r ⟨.inr rfl,b,_,rfl,uu,fun j hj=>⟨(hu j hj).1,(hu j hj).2.1,(hu j hj).2.2⟩⟩
 grind [aE]
end
theorem VRc.part{E:Env}{bxs:Nat->Prop}{k:Pl}{c:Nat}{f:Fl}{T:Ty}{xs:List T.den}{v:Value}(h:VRc E bxs k c (.sl f T xs) v):VRc E bxs k c (.sl f.part T xs) v:=by
 have h:RdP E.w (okF E k c f) (qF E k c f) v (.sl T.sz (xs.map T.toD)):=h;cases f with
 |ro=>exact h
 |bor=>exact h
 |own=>exact h.mono (fun p b o ho=>⟨rfl,ho.1⟩) (fun _ _ _ _=>trivial)
 |tip=>exact h.mono (fun p b o ho=>⟨rfl,ho.1⟩) (fun _ _ _ _=>trivial)
 |lnt n=>exact h.mono (fun p b o ho=>⟨rfl,ho.1⟩) (fun _ _ _ _=>trivial)
 |al k' c' p' =>exact h.mono (fun p b o ho=>⟨rfl,ho.1⟩) (fun _ _ _ _=>trivial)
theorem xU{w:World}{ok:Nat->Nat->Prop}{v:Value}{sz:Nat}{rows:List (List D)}(h:RdP w (fun _=>ok) (fun _ _ _=>True) v (.sl sz rows)){l m:Nat}(hl:l<=m)(hm:m<=rows.length):
 ∀a cap,v= .slice a rows.length cap->RdP w (fun _=>ok) (fun _ _ _=>True) (.slice (if cap=l then a else a.map (·.add (l*sz))) (m - l) (cap - l)) (.sl sz ((rows.take m).drop l)):=by
 intro a cap hv;by_cases he:m - l=0
 ·have:(rows.take m).drop l=[]:=by grind [List.drop_eq_nil_of_le]
  rw [this,he];exact .nil _ _ _ trivial
 ·obtain⟨b,off,cap',e,hc,hr,_,u,h1,h2⟩:=h.cells (by grind);rw [hv] at e;injection e with e1 _ e3;subst e1 e3;have hne:¬cap=l:=by omega
  rw [Za hne];simp only [Option.map_some,dU];have hlen:((rows.take m).drop l).length=m - l:=by grind
  refine .sl b (off+l*sz) (m - l) (cap - l) sz _ (fun i j=>u (l+i) j) hlen (by omega) (fun r hr' =>hr r (ZM (List.mem_of_mem_drop hr'))) trivial (fun i j hi hj=> ?_) (fun i j hi hj=> ?_)
  all_goals grind
theorem d7{P:Program}{w:World}{k:IntKind}{i:Int}{y:Nat}{code:BoundsCode}(h:0<=i/\i<=y):(Instr.sliceBound (.int k i) y code).run P w= .ok i.toNat w:=by
 simp [Instr.sliceBound,asIntOf,h]
section
variable {C:Ctx} {σ:St} {a:Act} {E:Env} {u u' u'' :Ups} {tt:TT} {o:Oper} {md:Md} {v:AV} {ob:List Prop} {ty:TypeId}
theorem qE(hi:Inv C (St.get (u++σ)) a.tmps E){x:Option Operand}{r:Option CV}(h:Mr (kO tt x) σ u=some (r,u')):
 u' =u/\match r with
  |some c=>∃y,x=some y/\∀pl i,VRc E (aA (St.get (u++σ))) pl i c (a.eval y)
  |none=>x=none:=by
 unfold kO at h;split at h
 ·obtain⟨c,u1,h1,h2⟩:=aD h
  grind [bO,aF]
 grind [aF]
theorem y5{w:World}(htt:aP C.P tt)(hi:Inv C (St.get (u++σ)) a.tmps E)(hw:E.w=w){t:TypeId}{x:Operand}{lo hi' :Option Operand}(ho:o.op= .slice t x lo hi' none)
 {i:TI} (hti:tt.get t=some i) {c:CV} (hc:∀pl i,VRc E (aA (St.get (u++σ))) pl i c (a.eval x)) (hfit:gG i c=true)
 {l h:Option CV} (hl:match l with |some c=>∃y,lo=some y/\∀pl i,VRc E (aA (St.get (u++σ))) pl i c (a.eval y) |none=>lo=none)
 (hh:match h with |some c=>∃y,hi' =some y/\∀pl i,VRc E (aA (St.get (u++σ))) pl i c (a.eval y) |none=>hi' =none)
 {r:CV} (hr:mY c l h=some (r,ob)) (hob:∀p∈ob,p):Good C (u++σ) a w o (.v false [r]):=by
 have str:∀(s:Str) (l m:Nat) (lov hiv:Option Value),c= .str s->l<=m->m<=s.length->lo.map a.eval=lov->hi'.map a.eval=hiv->
  (hiv=none/\m=s.length\/∃k,hiv=some (.int k m))->(lov=none/\l=0\/∃k,lov=some (.int k l))->Good C (u++σ) a w o (.v false [.str ((s.take m).drop l)]):=by
  intro s l m lov hiv hcs hlm hm hlov hhiv h1 h2;subst hcs;obtain⟨tx,e1,e2⟩:=hc (.h 0) 0;have hs:C.P.underlying t=some .string:=(htt t i hti).str hfit;have hsz:tx.size=s.length:=by grind [gR]
  refine Good.cell hi hw (val:= .string (tx.extract l m)) ?_ ⟨_,rfl,?_⟩
  ·rw [lS ho,hlov,hhiv,e1];have hb:(Instr.sliceBounds false tx.size tx.size lov hiv none).run C.P w= .ok (l,m,tx.size) w:=by
    rcases h1 with ⟨rfl,h1⟩|⟨k1,rfl⟩ <;>rcases h2 with ⟨rfl,h2⟩|⟨k2,rfl⟩
    ·simp [Instr.sliceBounds,h1,h2,hsz]
    ·have:=d7 (P:=C.P) (w:=w) (k:=k2) (i:=(l:Int)) (y:=tx.size) (code:= .sliceB) ⟨by omega,by omega⟩;rw [hsz] at this;simp [Instr.sliceBounds,this,h1,hsz]
    ·have:=d7 (P:=C.P) (w:=w) (k:=k1) (i:=(m:Int)) (y:=tx.size) (code:= .sliceAlen) ⟨by omega,by omega⟩;simp [Instr.sliceBounds,this,h2]
    ·have g1:=d7 (P:=C.P) (w:=w) (k:=k1) (i:=(m:Int)) (y:=tx.size) (code:= .sliceAlen) ⟨by omega,by omega⟩;have g2:=d7 (P:=C.P) (w:=w) (k:=k2) (i:=(l:Int)) (y:=m) (code:= .sliceB) ⟨by omega,by omega⟩;simp [Instr.sliceBounds,g1,g2]
   simp [Instr.sliceAt,run_underlying hs,Instr.slice,hb,dT]
  grind [ByteArray.data_extract,Array.toList_extract,List.drop_take]
 have sli:∀(f:Fl) (T:Ty) (xs:List T.den) (l m:Nat) (lov hiv:Option Value),c= .sl f T xs->l<=m->m<=xs.length->lo.map a.eval=lov->hi'.map a.eval=hiv->
  (hiv=none/\m=xs.length\/∃k,hiv=some (.int k m))->(lov=none/\l=0\/∃k,lov=some (.int k l))->Good C (u++σ) a w o (.v false [.sl f.part T ((xs.take m).drop l)]):=by
  intro f T xs l m lov hiv hcs hlm hm hlov hhiv h1 h2;subst hcs;have hx:=(hc (.h 0) 0).part;obtain⟨e,hel⟩:=iC hfit;obtain⟨g1,te,vz,g2,g3,_⟩:=(htt t i hti).elem e T hel;have hx' :RdP E.w (okF E (.h 0) 0 f.part) (qF E (.h 0) 0 f.part) (a.eval x) (.sl T.sz (xs.map T.toD)):=hx;obtain⟨ad,cap,e1,hcap⟩:=hx'.shape;rw [Zm] at e1 hcap;have hres:RdP E.w (okF E (.h 0) 0 f.part) (qF E (.h 0) 0 f.part) (.slice (if cap=l then ad else ad.map (·.add (l*T.sz))) (m - l) (cap - l)) (.sl T.sz (((xs.map T.toD).take m).drop l)):=by
   cases f <;>exact xU hx' hlm (by grind) ad cap (by grind)
  rw [<-List.map_take,<-List.map_drop] at hres;refine Good.cell hi hw (val:=_) ?_ hres;rw [lS ho,hlov,hhiv,e1];have hb:(Instr.sliceBounds true xs.length cap lov hiv none).run C.P w= .ok (l,m,cap) w:=by
   rcases h1 with ⟨rfl,h1⟩|⟨k1,rfl⟩ <;>rcases h2 with ⟨rfl,h2⟩|⟨k2,rfl⟩
   ·simp [Instr.sliceBounds,h1,h2]
   ·have:=d7 (P:=C.P) (w:=w) (k:=k2) (i:=(l:Int)) (y:=xs.length) (code:= .sliceB) ⟨by omega,by omega⟩;simp [Instr.sliceBounds,this,h1]
   ·have:=d7 (P:=C.P) (w:=w) (k:=k1) (i:=(m:Int)) (y:=cap) (code:= .sliceAcap) ⟨by omega,by omega⟩;simp [Instr.sliceBounds,this,h2]
   ·have g1:=d7 (P:=C.P) (w:=w) (k:=k1) (i:=(m:Int)) (y:=cap) (code:= .sliceAcap) ⟨by omega,by omega⟩;have g2:=d7 (P:=C.P) (w:=w) (k:=k2) (i:=(l:Int)) (y:=m) (code:= .sliceB) ⟨by omega,by omega⟩;simp [Instr.sliceBounds,g1,g2]
  simp [Instr.sliceAt,run_underlying g1,Instr.slice,hb,sizeOf,typeInfo,g2,g3,dT]
 unfold mY at hr;split at hr
 ·
  injection hr with hr;injection hr with e1 e2;subst e1 e2;obtain⟨y1,rfl,hy1⟩:=hl;obtain⟨y2,rfl,hy2⟩:=hh;obtain⟨q1,q2,q3⟩:=hob _ (Zo.2 rfl);rename_i s k1 l' k2 h';refine str s l'.toNat h'.toNat _ _ rfl (by omega) (by omega) rfl rfl (.inr ⟨k2,?_⟩) (.inr ⟨k1,?_⟩)
  ·rw [Option.map_some,show a.eval y2= .int k2 h' from hy2 (.h 0) 0,ZQ (by omega)]
  ·rw [Option.map_some,show a.eval y1= .int k1 l' from hy1 (.h 0) 0,ZQ (by omega)]
 ·injection hr with hr;injection hr with e1 e2;subst e1 e2;obtain⟨y1,rfl,hy1⟩:=hl;obtain⟨q1,q2⟩:=hob _ (Zo.2 rfl);rename_i s k1 l';have:=str s l'.toNat s.length _ _ rfl (by omega) (Zn _) rfl rfl (.inl ⟨by grind,rfl⟩) (.inr ⟨k1,by rw [Option.map_some,show a.eval y1= .int k1 l' from hy1 (.h 0) 0,ZQ (by omega)]⟩)
  grind
 ·injection hr with hr;injection hr with e1 e2;subst e1 e2;obtain⟨y2,rfl,hy2⟩:=hh;obtain⟨q1,q2⟩:=hob _ (Zo.2 rfl);rename_i s k2 h';exact str s 0 h'.toNat _ _ rfl (by omega) (by omega) rfl rfl (.inr ⟨k2,by rw [Option.map_some,show a.eval y2= .int k2 h' from hy2 (.h 0) 0,ZQ (by omega)]⟩) (.inl ⟨by grind,rfl⟩)
 ·injection hr with hr;injection hr with e1 e2;subst e1 e2;rename_i s;have:=str s 0 s.length _ _ rfl (by omega) (Zn _) rfl rfl (.inl ⟨by grind,rfl⟩) (.inl ⟨by grind,rfl⟩)
  grind
 ·injection hr with hr;injection hr with e1 e2;subst e1 e2;obtain⟨y1,rfl,hy1⟩:=hl;obtain⟨y2,rfl,hy2⟩:=hh;obtain⟨q1,q2,q3⟩:=hob _ (Zo.2 rfl);rename_i f T xs k1 l' k2 h';refine sli f T xs l'.toNat h'.toNat _ _ rfl (by omega) (by omega) rfl rfl (.inr ⟨k2,?_⟩) (.inr ⟨k1,?_⟩)
  ·rw [Option.map_some,show a.eval y2= .int k2 h' from hy2 (.h 0) 0,ZQ (by omega)]
  ·rw [Option.map_some,show a.eval y1= .int k1 l' from hy1 (.h 0) 0,ZQ (by omega)]
 ·injection hr with hr;injection hr with e1 e2;subst e1 e2;obtain⟨y1,rfl,hy1⟩:=hl;obtain⟨q1,q2⟩:=hob _ (Zo.2 rfl);rename_i f T xs k1 l';have:=sli f T xs l'.toNat xs.length _ _ rfl (by omega) (Zn _) rfl rfl (.inl ⟨by grind,rfl⟩) (.inr ⟨k1,by rw [Option.map_some,show a.eval y1= .int k1 l' from hy1 (.h 0) 0,ZQ (by omega)]⟩)
  grind
 ·injection hr with hr;injection hr with e1 e2;subst e1 e2;obtain⟨y2,rfl,hy2⟩:=hh;obtain⟨q1,q2⟩:=hob _ (Zo.2 rfl);rename_i f T xs k2 h';exact sli f T xs 0 h'.toNat _ _ rfl (by omega) (by omega) rfl rfl (.inr ⟨k2,by rw [Option.map_some,show a.eval y2= .int k2 h' from hy2 (.h 0) 0,ZQ (by omega)]⟩) (.inl ⟨by grind,rfl⟩)
 ·injection hr with hr;injection hr with e1 e2;subst e1 e2;rename_i f T xs;have:=sli f T xs 0 xs.length _ _ rfl (by omega) (Zn _) rfl rfl (.inl ⟨by grind,rfl⟩) (.inl ⟨by grind,rfl⟩)
  grind
 grind
end
theorem qY{P:Program}{w:World}(d:Nat){t:TypeId}(h:P.underlying t=some .bool)(a b:Bool):(Op.equalIn (d+1) t (.bool a) (.bool b)).run P w= .ok (a==b) w:=by
 simp [Op.equalIn,run_underlying h]
theorem yN{P:Program}{w:World}{t:TypeId}(h:P.underlying t=some .bool)(a b:Bool):(binOp .eql t (.bool a) (.bool b)).run P w= .ok (.bool (a==b)) w:=by
 simp only [binOp];simp [Op.equal,Op.maxDepth,qY 9999 h]
theorem yR{P:Program}{w:World}{t:TypeId}(h:P.underlying t=some .bool)(a b:Bool):(binOp .neq t (.bool a) (.bool b)).run P w= .ok (.bool (!(a==b))) w:=by
 simp only [binOp];simp [Op.equal,Op.maxDepth,qY 9999 h]
theorem yO{P:Program}{w:World}(d:Nat){t:TypeId}{f1 f2:Array TypeId}{f3:Bool}(h:P.underlying t=some (.func f1 f2 f3))(k:FuncId)(a b:Array Value):(Op.equalIn (d+1) t (.func (.func k) a b) .nilFunc).run P w= .ok false w:=by
 simp [Op.equalIn,run_underlying h]
theorem yP{P:Program}{w:World}(d:Nat){t:TypeId}{f1 f2:Array TypeId}{f3:Bool}(h:P.underlying t=some (.func f1 f2 f3)):(Op.equalIn (d+1) t .nilFunc .nilFunc).run P w= .ok true w:=by
 simp [Op.equalIn,run_underlying h]
theorem fnNil_run{P:Program}{w:World}{t:TypeId}{f1 f2:Array TypeId}{f3:Bool}(h:P.underlying t=some (.func f1 f2 f3)){E:Env}{bxs:Nat->Prop}{pl:Pl}{i:Nat}{x y:CV}{vx vy:Value}{r:Bool}(hr:fnNil x y=some r)
 (hx:VRc E bxs pl i x vx) (hy:VRc E bxs pl i y vy) (op:BinOp) (x' y' :Operand) (hop:op= .eql\/op= .neq):(do eqGuard op t x' y' vx vy;binOp op t vx vy:Sem Value).run P w= .ok (.bool (if op= .eql then r else !r)) w:=by
 have hg:∀op a b,(match a with | .func _ _ _=>True| .nilFunc=>True|_=>False)->(eqGuard op t x' y' a b).run P w= .ok () w:=by
  intro op a b ha;unfold eqGuard;cases a <;>first |exact ha.elim|simp_all
 unfold fnNil at hr;split at hr
 ·cases hr;obtain⟨rfl,_⟩:=hx;obtain⟨rfl,_⟩:=hy;rw [Sem.run_bind,hg _ _ _ trivial,Result.andThen_ok];rcases hop with rfl|rfl <;>simp only [binOp] <;>simp [Op.equal,Op.maxDepth,yO 9999 h]
 ·cases hr;obtain⟨rfl,_⟩:=hx;obtain⟨rfl,_⟩:=hy;rw [Sem.run_bind,hg _ _ _ trivial,Result.andThen_ok];rcases hop with rfl|rfl <;>simp only [binOp] <;>simp [Op.equal,Op.maxDepth,yP 9999 h]
 grind
section
variable {C:Ctx} {σ:St} {a:Act} {E:Env} {u u' u'' :Ups} {tt:TT} {o:Oper} {md:Md} {v:AV} {ob:List Prop} {ty:TypeId}
theorem sU{w:World}(htt:aP C.P tt)(hi:Inv C (St.get (u++σ)) a.tmps E)(hw:E.w=w){op:BinOp}{t s:TypeId}{x y:Operand}(ho:o.op= .binOp op t x y s)
 {p q:AV} (hx:∀pl,VR E (aA (St.get (u++σ))) pl p (a.eval x)) (hy:∀pl,VR E (aA (St.get (u++σ))) pl q (a.eval y))
 (h:Mr (lE tt op t p q) σ u=some ((v,ob),u')) (hob:∀p∈ob,p):Good C (u' ++σ) a w o v:=by
 replace hx:=hx (.h 0)
 replace hy:=hy (.h 0)
 unfold lE at h;split at h
 ·rename_i b1 b2;have e1:a.eval x= .bool b1:=hx.1;have e2:a.eval y= .bool b2:=hy.1;split at h
  ·rename_i i hti;obtain⟨hb,h⟩:=aU h;have hu:=(htt t i hti).bool hb;have hg:∀op,(eqGuard op t x y (.bool b1) (.bool b2)).run C.P w= .ok () w:=by intro op;unfold eqGuard;split <;>simp
   split at h
   ·obtain⟨rfl,_,rfl⟩:=aQ h;refine Good.cell hi hw (val:= .bool (b1==b2)) ?_ rfl;rw [eV ho,e1,e2,Sem.run_bind,hg,Result.andThen_ok,yN hu];rfl
   ·obtain⟨rfl,_,rfl⟩:=aQ h;refine Good.cell hi hw (val:= .bool (!(b1==b2))) ?_ rfl;rw [eV ho,e1,e2,Sem.run_bind,hg,Result.andThen_ok,yR hu];rfl
   grind [aE]
  grind [aE]
 ·split at h
  ·rename_i r hr;split at h
   ·rename_i i hti;obtain⟨hb,h⟩:=aU h;obtain⟨f1,f2,f3,hu⟩:=(htt t i hti).fn hb;have hs:=fun op hop=>fnNil_run (P:=C.P) (w:=w) hu hr hx.1 hy.1 op x y hop;split at h
    ·obtain⟨rfl,_,rfl⟩:=aQ h;refine Good.cell hi hw (val:= .bool r) ?_ rfl;rw [eV ho,hs _ (.inl rfl)];rfl
    ·obtain⟨rfl,_,rfl⟩:=aQ h;refine Good.cell hi hw (val:= .bool (!r)) ?_ rfl;rw [eV ho,hs _ (.inr rfl)];rfl
    grind [aE]
   grind [aE]
  obtain⟨r,u1,h1,h2⟩:=aD h;obtain⟨r,ob'⟩:=r;obtain⟨hbin,rfl⟩:=cZ h1;obtain⟨rfl,rfl,rfl⟩:=aQ h2;obtain⟨val,e,hv⟩:=sT (C:=C) (t:=t) (x' :=x) (y' :=y) w hbin hob hx.1 hy.1;exact Good.cell hi hw (by rw [eV ho,e];rfl) hv
 ·split at h
  ·rename_i as bs _ _ i r hti hr;obtain⟨hb,h⟩:=aU h;rw [Zu,Zu] at hb;obtain⟨⟨hb,hl1⟩,hl2⟩:=hb;obtain⟨vs,e1,hx⟩:=hx;obtain⟨ws,e2,hy⟩:=hy;have hs:=(htt t i hti).same hb vs ws w as bs r E (aA (St.get (u++σ))) (.h 0) hr hl1 hl2 hx hy op;split at h
   ·obtain⟨rfl,_,rfl⟩:=aQ h;refine Good.cell hi hw (val:= .bool r) ?_ rfl;rw [eV ho,e1,e2,hs (.inl rfl)];rfl
   ·obtain⟨rfl,_,rfl⟩:=aQ h;refine Good.cell hi hw (val:= .bool (!r)) ?_ rfl;rw [eV ho,e1,e2,hs (.inr rfl)];rfl
   grind [aE]
  grind [aE]
 grind [aE]
theorem pO{w:World}(hi:Inv C (St.get (u++σ)) a.tmps E)(hw:E.w=w){c:Call}{x y:Operand}(ho:o.op= .call c)(hargs:c.args.toList=[x,y])
 {k k' :IntKind} {n m:Int} (hx:∀pl i,VRc E (aA (St.get (u++σ))) pl i (.int k n) (a.eval x)) (hy:∀pl i,VRc E (aA (St.get (u++σ))) pl i (.int k' m) (a.eval y)):
 (c.callee= .builtin .min->Good C (u++σ) a w o (.v false [.int k (if m<n then m else n)]))/\(c.callee= .builtin .max->Good C (u++σ) a w o (.v false [.int k (if m>n then m else n)])):=by
 have e1:a.eval x= .int k n:=hx (.h 0) 0;have e2:a.eval y= .int k' m:=hy (.h 0) 0;have hA:c.args.map a.eval= #[.int k n,.int k' m]:=by apply Yg;simp_all
 refine⟨fun hc=>Good.cell hi hw (val:= .int k (if m<n then m else n)) ?_ rfl,fun hc=>Good.cell hi hw (val:= .int k (if m>n then m else n)) ?_ rfl⟩
 ·rw [uQ ho hc,hA];simp [Builtin.min_,Builtin.min2,dT]
 ·rw [uP ho hc,hA];simp [Builtin.max_,Builtin.max2,dT]
def dI(q c0 m i:Nat):Own->Option Own
 | .arr (.k k) c p=>if k=q/\c0<=c/\c<c0+m then some (.arr (.h i) (c - c0) p) else some (.arr (.k k) c p)
 | .arr (.h j) c p=>if j=i then none else some (.arr (.h j) c p)
 | .box s=>some (.box s)
def dkR(q c0 m i:Nat):Pl->Nat->Prop:=fun pl c=>(pl= .k q/\c0<=c/\c<c0+m)\/pl= .h i
theorem qL(q c0 m i:Nat):RhoOk (dI q c0 m i) (dkR q c0 m i) where
 box:=fun _=>rfl
 id:=fun k c p h=>by
  unfold dkR at h;cases k with
  |k n=>
   grind [dI]
  |h n=>grind [dI]
 inj:=fun l1 l2 l h1 h2=>by
  unfold dI at h1 h2
  grind
 arr:=fun k c p s=>by
  cases k <;>simp only [dI] <;>split <;>simp
theorem nJ{bxs:Nat->Prop}{pl:Pl}:∀ {xs:List (Bool×List CV)} {c:Nat} {vs:List Value} {i:Nat} {y:Bool×List CV},VRt E bxs pl c xs vs->xs[i]? =some y->
 ∃v,vs[i]? =some v/\VR1 E bxs pl (c+((xs.take i).map fun z=>z.2.length).sum) y.1 y.2 v:=by
 intro xs
 induction xs with
 |nil=>grind
 |cons x xs ih=>
  intro c vs i y hv h;cases vs with
  |nil=>exact hv.elim
  |cons v vs=>
   cases i with
   |zero=>simp at h;subst h;exact⟨v,rfl,by simpa using hv.1⟩
   |succ i=>
    obtain⟨v',h1,h2⟩:=ih hv.2 (by simpa using h)
    grind
theorem kK(x:CV)(k c:Nat):¬x.noAl.speaks k c:=by
 cases x with
 |sl f T xs=>cases f <;>exact id
 |_=>exact id
theorem mL{dk:Pl->Nat->Prop}{pl:Pl}{c:Nat}{x:CV}(h:x.owning=true->¬dk pl c):CW dk False pl c x.noAl x:=by
 cases x with
 |sl f T xs=>cases f <;>first |exact .inl rfl|exact .inr ⟨rfl,h,fun _ _ h=>h.elim,fun _ h=>h⟩
 |eref k c p i T x off=>exact .inl rfl
 |apd k c p T xs=>exact .inl rfl
 |_=>exact .inr ⟨rfl,h,fun _ _ h=>h.elim,fun _ h=>h⟩
theorem pZ{dk:Pl->Nat->Prop}{pl:Pl}{c:Nat}{x:CV}:CW dk False pl c x.noAl.left x:=by
 cases x with
 |sl f T xs=>cases f <;>first |exact .inl rfl|exact .inr ⟨rfl,fun h=>by grind [CV.owning],fun _ _ h=>h.elim,fun _ h=>h⟩
 |eref k c p i T x off=>exact .inl rfl
 |apd k c p T xs=>exact .inl rfl
 |_=>exact .inr ⟨rfl,fun h=>by simp [CV.owning] at h,fun _ _ h=>h.elim,fun _ h=>h⟩
theorem tX{q m:Nat}:∀ {xs:List (Bool×List CV)} {c i c0:Nat} {y:Bool×List CV},(xs.map fun x=>(x.1,x.2.map CV.noAl))[i]? =some y->c0=c+((xs.take i).map fun z=>z.2.length).sum->m=y.2.length->
 CWt (dkR q c0 m 0) False (.k q) c ((xs.map fun x=>(x.1,x.2.map CV.noAl)).set i (y.1,y.2.map CV.left)) xs:=by
 intro xs
 induction xs with
 |nil=>grind
 |cons x xs ih=>
  intro c i c0 y h hc hm;cases i with
  |zero=>
   simp at h;subst h;simp at hc hm;subst hc hm;simp only [ZX,List.set_cons_zero,Yi];refine .cons (CWs.map (f:=CV.left ∘ CV.noAl) (fun c x=>pZ) _ _) ?_;have key:∀(zs:List (Bool×List CV)) (d:Nat),c0+x.2.length<=d->CWt (dkR q c0 x.2.length 0) False (.k q) d (zs.map fun x=>(x.1,x.2.map CV.noAl)) zs:=by
    intro zs
    induction zs with
    |nil=>exact fun _ _=> .nil
    |cons z zs ihz=>
     intro d hd;refine .cons ?_ (ihz _ (by omega));have kk:∀(ws:List CV) (e:Nat),d<=e->CWs (dkR q c0 x.2.length 0) False (.k q) e (ws.map CV.noAl) ws:=by
      intro ws
      induction ws with
      |nil=>exact fun _ _=> .nil
      |cons w ws ihw=>
       intro e he;refine .cons (mL fun _ hk=> ?_) (ihw _ (by omega));rcases hk with ⟨_,_,h3⟩|h
       all_goals grind
     grind
   grind
  |succ i=>
   simp only [ZX,List.set_cons_succ];have hc' :c+x.2.length<=c0:=by grind
   refine .cons ?_ (ih (by grind) (by grind) hm);have kk:∀(ws:List CV) (e:Nat),e+ws.length<=c0->CWs (dkR q c0 m 0) False (.k q) e (ws.map CV.noAl) ws:=by
    intro ws
    induction ws with
    |nil=>exact fun _ _=> .nil
    |cons w ws ihw=>
     intro e he;simp at he;refine .cons (mL fun _ hk=> ?_) (ihw _ (by omega));rcases hk with ⟨_,h2,_⟩|h
     all_goals grind
   grind
theorem uR{w:World}(hi:Inv C (St.get (u++σ)) a.tmps E)(hw:E.w=w){t i:Nat}(ho:o.op= .extract (.tmp t) i){ys:List (Bool×List CV)}(hg:St.get (u++σ) (2*t)= .tup ys)
 {x:Bool×List CV} (hx:ys[i]? =some x):Good C (u++σ) a w o (.v x.1 (x.2.map CV.cp)):=by
 have ht:=hi.tmp t;rw [hg] at ht;obtain⟨vs,e1,hv⟩:=ht;obtain⟨val,h1,h2⟩:=nJ hv hx;refine⟨val,w,?_,E,hw,hi,VR1.impLt (fun j x v hj hv=>hv.cp) h2⟩;rw [oM ho,show a.eval (.tmp t)= .tuple vs from e1];have:vs[i]? =some val:=by grind
 simp [Instr.extract,this,dT]
theorem uT{w:World}(hi:Inv C (St.get (u++σ)) a.tmps E)(hw:E.w=w){t i:Nat}(ho:o.op= .extract (.tmp t) i){ys:List (Bool×List CV)}(hg:St.get (u++σ) (2*t)= .tup ys)
 {x:Bool×List CV} (hx:(ys.map fun x=>(x.1,x.2.map CV.noAl))[i]? =some x):
 Good C (((2*t,.tup ((ys.map fun x=>(x.1,x.2.map CV.noAl)).set i (x.1,x.2.map CV.left)))::u)++σ) a w o (.v x.1 x.2):=by
 have ht:=hi.tmp t;rw [hg] at ht;obtain⟨vs,e1,hv⟩:=ht;obtain⟨y,hy,rfl⟩:∃y,ys[i]? =some y/\x=(y.1,y.2.map CV.noAl):=by
  grind
 obtain⟨val,h1,h2⟩:=nJ hv hy;have hr:=qL (2*t) (0+((ys.take i).map fun z=>z.2.length).sum) y.2.length 0;have hb:∀s,aA (St.get (u++σ)) s->aA (St.get (((2*t,.tup ((ys.map fun x=>(x.1,x.2.map CV.noAl)).set i (y.1,(y.2.map CV.noAl).map CV.left)))::u)++σ)) s:=fun s=>dX (by omega);refine⟨val,w,?_,E.rel (dI (2*t) (0+((ys.take i).map fun z=>z.2.length).sum) y.2.length 0),hw,?_,?_⟩
 ·rw [oM ho,show a.eval (.tmp t)= .tuple vs from e1];have:vs[i]? =some val:=by grind
  simp [Instr.extract,this,dT]
 ·refine hi.rel hr rfl hb (fun t' => .inr ⟨?_,rfl⟩) (fun s cs' hs=> ?_)
  ·show AWk _ _ _ (St.get ((2*t,_)::(u++σ)) _) _;rw [St.get_cons];split
   ·rename_i e;rw [<-e,hg];exact⟨ys,rfl,tX hx rfl (by simp)⟩
   ·rename_i e;refine AWk.map (fun c x=>CW.stale (fun _ hd=> ?_) (fun k c hd=> ?_) (fun h=>h.elim)) _
    ·rcases hd with ⟨hd,_⟩|hd
     all_goals grind
    ·rcases hd with ⟨hd,_⟩|hd
     all_goals grind
  ·obtain⟨cs,hc,rfl⟩:=eU (by omega) hs;refine .inr ⟨cs,hc,CWs.map (fun c x=>CW.stale (fun _ hd=> ?_) (fun k c hd=> ?_) (fun h=>h.elim)) _ _⟩
   ·rcases hd with ⟨hd,_⟩|hd
    all_goals grind
   ·rcases hd with ⟨hd,_⟩|hd
    all_goals grind
 ·refine VR1.impLt (fun j x v hj hv=> ?_) h2;have h3:VRc (E.rel (dI (2*t) (0+((ys.take i).map fun z=>z.2.length).sum) y.2.length 0)) (aA (St.get (u++σ))) (.h 0) (0+j) x.noAl v:=by
   have h4:VRc E (aA (St.get (u++σ))) (.k (2*t)) (0+((ys.take i).map fun z=>z.2.length).sum+j) x.noAl v:=by
    cases x with
    |sl f T xs=>cases f <;>first |exact hv|exact hv.one
    |eref k c p i T x off=>exact hv.one
    |apd k c p T xs=>exact hv.one
    |_=>exact hv
   refine h4.rel hr (fun _ p=> ?_) (fun k1 c1 hs=>absurd hs (kK _ _ _))
   grind [dI]
  exact VRc.step (E' :=E.rel (dI (2*t) (0+((ys.take i).map fun z=>z.2.length).sum) y.2.length 0)) (dk:=fun _ _=>False) (db:=fun _=>True) (mu:=False) ⟨fun b hb=>⟨fun _=>hb,fun o ho=>⟨rfl,ho⟩⟩,fun b k c p hb _=>⟨hb,rfl,rfl⟩,fun _ b o ho=>⟨rfl,ho⟩,fun s _ h=>(h trivial).elim,rfl⟩
   (fun s hs=>⟨hb s hs,rfl⟩) (by simp) (by simp) (by simp) h3
end
def cR(P:Program):Nat->List Field->List CV->Bool
 |_,[],[]=>true
 |o,f::fs,.int k _::z=>(f.name != "_")&&f.offset.beq o&&(match P.underlying f.type with |some (.int k')=>decide (k=k') |_=>false)&&cR P (o+1) fs z
 |o,f::fs,.str _::z=>(f.name != "_")&&f.offset.beq o&&(match P.underlying f.type with |some .string=>true|_=>false)&&cR P (o+1) fs z
 |o,f::fs,.bool _::z=>(f.name != "_")&&f.offset.beq o&&(match P.underlying f.type with |some .bool=>true|_=>false)&&cR P (o+1) fs z
 |_,_,_=>false
def mW(P:Program)(t:TypeId)(z:Option (List CV)):Bool:=match P.underlying t,z with
 |some (.struct fs),some z=>cR P 0 fs.toList z&& !P.stoodInHeld t&& !P.eqGuardType P.depth t
 |_,_=>false
theorem tP{k k' :IntKind}{n m:Int}{as bs:List CV}{r:Bool}(h:bZ (.int k n::as) (.int k' m::bs)=some r):
 (as=[]/\bs=[]/\r=(n==m))\/∃y,bZ as bs=some y/\r=((n==m)&&y):=by
 unfold bZ at h;split at h <;>simp_all
 grind
theorem tQ{n m:Str}{as bs:List CV}{r:Bool}(h:bZ (.str n::as) (.str m::bs)=some r):
 (as=[]/\bs=[]/\r=(n==m))\/∃y,bZ as bs=some y/\r=((n==m)&&y):=by
 unfold bZ at h;split at h <;>simp_all
 grind
theorem tO{n m:Bool}{as bs:List CV}{r:Bool}(h:bZ (.bool n::as) (.bool m::bs)=some r):
 (as=[]/\bs=[]/\r=(n==m))\/∃y,bZ as bs=some y/\r=((n==m)&&y):=by
 unfold bZ at h;split at h <;>simp_all
 grind
section
variable {P:Program} {w:World} {E:Env} {bxs:Nat->Prop} {pl:Pl}
theorem q7{e:TypeId}(he:P.plainKey e=true){xs:Array Value}{o:Nat}{v:Value}{vs:List Value}(hx:xs.toList.drop o=v::vs):(part e xs o).run P w= .ok v w:=by
 refine run_part_plain w he ?_;have:(xs.toList.drop o)[0]? =some v:=by grind
 grind
theorem uA{α:Type}{xs:List α}{o:Nat}{v:α}{vs:List α}(h:xs.drop o=v::vs):xs.drop (o+1)=vs:=by
 rw [<-ZC,h];rfl
theorem uF(d:Nat){xs ys:Array Value}:∀ {fs:List Field} {z as bs:List CV} {o:Nat} {r:Bool} {us vs:List Value},cR P o fs z=true->bW z as=true->bW z bs=true->bZ as bs=some r->
 xs.toList.drop o=us->ys.toList.drop o=vs->VRs E bxs pl o as us->VRs E bxs pl o bs vs->(Op.eqFields (d+1) xs ys fs).run P w= .ok r w:=by
 intro fs
 induction fs with
 |nil=>
  grind [bW,bZ,cR]
 |cons f fs ih=>
  intro z as bs o r us vs h1 h2 h3 h4 hus hvs hA hB;have nilcase:∀ {z as bs:List CV},cR P (o+1) fs z=true->bW z as=true->as=[]->fs=[]:=by
   grind [cR,bW]
  have go:∀ {t:TypeId} {u v:Value} {us' vs' :List Value} {x y:Bool} {z as bs:List CV},f.type=t->f.offset=o->f.name≠ "_" ->P.plainKey f.type=true->us=u::us' ->vs=v::vs' ->(Op.equalIn (d+1) f.type u v).run P w= .ok x w->
   cR P (o+1) fs z=true->bW z as=true->bW z bs=true->VRs E bxs pl (o+1) as us' ->VRs E bxs pl (o+1) bs vs' ->
   ((as=[]/\bs=[]/\r=x)\/∃y,bZ as bs=some y/\r=(x&&y))->(Op.eqFields (d+1) xs ys (f::fs)).run P w= .ok r w:=by
   intro t u v us' vs' x y z as bs _ ho hn hp hu hv he g1 g2 g3 gA gB hr;subst hu hv;rw [Op.eqFields,Zt hn,ho];simp only [Sem.run_bind,q7 hp hus,q7 hp hvs,Result.andThen_ok,he];rcases hr with ⟨e1,_,e2⟩|⟨q,hq,rfl⟩
   ·obtain rfl:=nilcase (bs:=bs) g1 g2 e1;rw [e2];cases x <;>simp [Op.eqFields]
   ·cases x
    ·simp
    grind [uA]
  cases z with
  |nil=>grind [cR]
  |cons z0 z=>
   cases as with
   |nil=>grind [bW]
   |cons a as=>
   cases bs with
   |nil=>grind [bW]
   |cons b bs=>
   cases us with
   |nil=>exact hA.elim
   |cons u us=>
   cases vs with
   |nil=>exact hB.elim
   |cons v vs=>
   cases z0 with
   |int k n0=>
    simp only [cR,Zu,bne_iff_ne,ne_eq] at h1;obtain⟨⟨⟨g1,g2⟩,g3⟩,g4⟩:=h1;split at g3
    case h_2=>grind
    rename_i k' hu;have g3:=of_decide_eq_true g3;subst g3;cases a <;>simp [bW] at h2;cases b <;>simp [bW] at h3;rename_i ka na kb nb;obtain⟨rfl,h2⟩:=h2;obtain⟨rfl,h3⟩:=h3;obtain rfl:u= .int k na:=hA.1;obtain rfl:v= .int k nb:=hB.1;exact go (y:=true) rfl (Zj g2) g1 (by grind [Program.plainKey]) rfl rfl (run_equalIn_int w d _ k k na nb hu) g4 h2 h3 hA.2 hB.2 (tP h4)
   |str n0=>
    simp only [cR,Zu,bne_iff_ne,ne_eq] at h1;obtain⟨⟨⟨g1,g2⟩,g3⟩,g4⟩:=h1;split at g3
    case h_2=>grind
    rename_i hu;cases a <;>simp [bW] at h2;cases b <;>simp [bW] at h3;rename_i na nb;obtain⟨⟨ta,rfl,ha⟩,hA⟩:=hA;obtain⟨⟨tb,rfl,hb⟩,hB⟩:=hB;refine go (y:=true) rfl (Zj g2) g1 (by grind [Program.plainKey]) rfl rfl (run_equalIn_string w d _ ta tb hu) g4 h2 h3 hA hB ?_
    grind [ByteArray.toList_eq,tQ]
   |bool n0=>
    simp only [cR,Zu,bne_iff_ne,ne_eq] at h1;obtain⟨⟨⟨g1,g2⟩,g3⟩,g4⟩:=h1;split at g3
    case h_2=>grind
    rename_i hu;cases a <;>simp [bW] at h2;cases b <;>simp [bW] at h3;rename_i na nb;obtain rfl:u= .bool na:=hA.1;obtain rfl:v= .bool nb:=hB.1;exact go (y:=true) rfl (Zj g2) g1 (by grind [Program.plainKey]) rfl rfl (run_equalIn_bool' w d _ na nb hu) g4 h2 h3 hA.2 hB.2 (tO h4)
   |_=>simp [cR] at h1
theorem yS{t:TypeId}{z:Option (List CV)}(h:mW P t z=true)(a b:Array Value)(w:World)(as bs:List CV)(r:Bool)(E:Env)(bxs:Nat->Prop)(pl:Pl)(hr:bZ as bs=some r)
 (h1:gC z as=true) (h2:gC z bs=true) (hA:VRs E bxs pl 0 as a.toList) (hB:VRs E bxs pl 0 bs b.toList) (op:BinOp) (hop:op= .eql\/op= .neq) (x y:Operand):
 (do eqGuard op t x y (.agg a) (.agg b);binOp op t (.agg a) (.agg b):Sem Value).run P w= .ok (.bool (if op= .eql then r else !r)) w:=by
 unfold mW at h;split at h
 case h_2=>cases h
 rename_i fs z hu;simp only [Zu,ZF] at h;obtain⟨⟨g1,g2⟩,g3⟩:=h;have hf:P.fieldsOf t=fs:=by grind [Program.fieldsOf]
 have e:(Op.equalIn 10000 t (.agg a) (.agg b)).run P w= .ok r w:=by
  rw [run_equalIn_agg w 9999 t a b (by grind) g2,hf];exact uF 9998 g1 h1 h2 hr rfl rfl hA hB
 grind [Sem.run_bind,run_eqGuard_agg,Result.andThen_ok,run_eql_struct,run_neq_struct]
end
def kY(P:Program)(t:TypeId)(n:Nat):Bool:=match P.underlying t with
 |some d=>(match d with | .struct _=>true| .array _ _=>true|_=>false)== !(n.beq 1)
 |none=>false
def dN(P:Program):List Field->List Nat->List Nat->Bool
 | [],[],[]=>true
 |fl::fs,p::ps,n::ns=>(match P.info? fl.type with
  |some j=>fl.offset.beq p&&j.size.beq n&& !(n.beq 0)&&kY P fl.type n
  |none=>false)&&dN P fs ps ns
 |_,_,_=>false
def m9(P:Program)(t:TypeId)(i:TI):Bool:=
 match P.info? t,P.underlying t with
 |some ti,some d=>ti.size.beq i.sz&&((match d with | .struct _=>true| .array _ _=>true|_=>false)==i.agg)&&(i.agg||i.sz.beq 1)&&
  (match i.zero with
    |none=>true
    |some z=>match ti.zero with
     |some v=>bM z v.cells.toList
     |none=>false)&&
  (match d with
    | .struct fs=>dN P fs.toList i.offs i.fsz
    |_=>i.offs.isEmpty&& !(i.agg&&i.zero.isSome))&&
  (match i.elem with
    |none=>true
    |some (e,T)=>(match d with
     | .slice e' =>e'.beq e&&(match P.info? e with
       |some te=>te.size.beq T.sz&&Nat.blt 0 te.bytes&&te.bytes.ble 256&&(match te.zero with
        |some v=>bM (T.enc .own T.dflt) v.cells.toList
        |none=>false)
       |none=>false)&&(match T with
        | .byte=>(match P.underlying e with |some (.int .u8)=>true|_=>false)
        |_=>true)
     |_=>false))&&
  (match i.ik with
    |none=>true
    |some k=>match d with | .int k' =>decide (k' =k) |_=>false)&&
  (!i.isStr||match d with | .string=>true|_=>false)&&(!i.isBool||match d with | .bool=>true|_=>false)&&(!i.isFn||match d with | .func _ _ _=>true|_=>false)&&(!i.same||mW P t i.zero)
 |_,_=>false
theorem oS{P:Program}:∀ {fs:List Field} {ps ns:List Nat},dN P fs ps ns=true->ps.length=ns.length/\fs.mapM (fun f=>(P.info? f.type).map fun j=>(f.offset,j.size))=some (ps.zip ns)/\
 ∀(f p:Nat),ps[f]? =some p->∃(fl:Field) (tj:TypeInfo),fs[f]? =some fl/\fl.offset=p/\P.info? fl.type=some tj/\tj.size≠0/\ns[f]? =some tj.size:=by
 intro fs
 induction fs with
 |nil=>
  intro ps ns h;cases ps <;>cases ns <;>simp_all [dN]
 |cons fl fs ih=>
  intro ps ns h;cases ps with
  |nil=>grind [dN]
  |cons p ps=>
   cases ns with
   |nil=>grind [dN]
   |cons n ns=>
    simp only [dN,Zu] at h;obtain⟨h1,h2⟩:=h;obtain⟨i1,i2,i3⟩:=ih h2;split at h1
    ·rename_i j hj;simp only [Zu,ZF] at h1;obtain⟨⟨⟨a1,a2⟩,a3⟩,_⟩:=h1;obtain rfl:=Zj a1;obtain rfl:=Zj a2;refine⟨by grind,by simp_all,fun f p hp=> ?_⟩
     grind
    grind
theorem oR{P:Program}:∀ {fs:List Field} {ps ns:List Nat},dN P fs ps ns=true->∀(f n:Nat) (fl:Field),ns[f]? =some n->fs[f]? =some fl->kY P fl.type n=true
 | [],[],[],_,f,n,fl,h,_=>by simp at h
 |x::fs,p::ps,m::ns,h,f,n,fl,h1,h2=>by
  simp only [dN,Zu] at h;cases f with
  |zero=>
   have h:=h.1;split at h
   ·simp_all
   ·cases h
  |succ f=>exact oR h.2 f n fl h1 h2
theorem zE{P:Program}{t:TypeId}{i:TI}(h:m9 P t i=true):TIok P t i:=by
 unfold m9 at h;split at h
 case h_2=>cases h
 rename_i ti d h1 h2;simp only [Zu] at h;obtain⟨⟨⟨⟨⟨⟨⟨⟨⟨⟨a1,a2⟩,a3⟩,a4⟩,a5⟩,a6⟩,a7⟩,a8⟩,a9⟩,a9f⟩,a10⟩:=h;have hfields:i.offs=[]/\¬(i.agg=true/\∃z,i.zero=some z)\/∃fs:Array Field,d= .struct fs/\dN P fs.toList i.offs i.fsz=true:=by
  grind
 refine⟨⟨ti,d,h1,Zj a1,h2,by grind,fun hg=> ?_,fun z hz=> ?_⟩,?_,fun fs' hu f p n fl h0' h1' h2' => ?_,fun z hz hg=> ?_,fun e T he=> ?_,fun e he=> ?_,fun k hk=> ?_,fun hs=> ?_,fun hb=> ?_,fun hf=> ?_,fun hs=> ?_⟩
 ·simp_all
 ·grind
 ·rcases hfields with ⟨h,_⟩|⟨fs,rfl,h⟩
  ·grind
  ·obtain⟨_,_,g⟩:=oS h
   grind
 ·rcases hfields with ⟨h,_⟩|⟨fs,rfl,h⟩
  ·simp [h] at h0'
  ·rw [hu] at h2;cases h2;have:=oR h f n fl h1' (by simpa using h2');unfold kY at this;split at this
   ·rename_i d hd;exact⟨d,hd,by cases d <;>simpa using this⟩
   ·cases this
 ·rcases hfields with ⟨_,h⟩|⟨fs,rfl,h⟩
  ·grind
  ·obtain⟨g0,g,_⟩:=oS h
   grind
 ·rw [he] at a6;simp only at a6;split at a6
  ·rename_i e';simp only [Zu] at a6;obtain⟨⟨b1,b2⟩,b3⟩:=a6;obtain rfl:=Zj b1;split at b2
   ·rename_i te hte;simp only [Zu] at b2;obtain⟨⟨⟨c1,c2⟩,c3⟩,c4⟩:=b2;split at c4
    all_goals simp_all
   grind
  grind
 ·grind
 ·grind
 ·grind
 ·grind
 ·grind
 ·rw [hs] at a10;exact yS (by grind)
def zL(P:Program)(tt:TT):Bool:=tt.all fun x=>m9 P x.1 x.2
theorem AG{P:Program}{tt:TT}(h:zL P tt=true):aP P tt:=by
 intro t i hi;have key:∀tt:TT,tt.get t=some i->(t,i)∈tt:=by
  intro tt
  induction tt with
  |nil=>intro h;cases h
  |cons x r ih=>
   grind [TT.get,Nat.eq_of_beq_eq_true]
 exact zE (Zx.1 h _ (key tt hi))
def fB(g:Bool)(vs:List Value):Value:=cond g (.agg vs.toArray) (vs.headD undef)
theorem bB{E:Env}{bxs:Nat->Prop}{pl:Pl}:∀ {xs:List CV} {c:Nat} {vs:List Value},VRs E bxs pl c xs vs->xs.length=vs.length:=by
 intro xs
 induction xs with
 |nil=>grind [VRs]
 |cons x xs ih=>
  intro c vs h;cases vs with
  |nil=>exact h.elim
  |cons v vs=>simp [ih h.2]
theorem nG{E:Env}{bxs:Nat->Prop}{pl:Pl}:∀ {xs:List CV} {c n:Nat} {vs:List Value},VRs E bxs pl c xs vs->n<=xs.length->VRs E bxs pl (c+n) (xs.drop n) (vs.drop n):=by
 intro xs
 induction xs with
 |nil=>simp_all
 |cons x xs ih=>
  intro c n vs h hn;cases vs with
  |nil=>exact h.elim
  |cons v vs=>
   cases n with
   |zero=>exact h
   |succ n=>
    have:=ih (n:=n) h.2 (by grind)
    grind
theorem nH{E:Env}{bxs:Nat->Prop}{pl:Pl}:∀ {xs:List CV} {c n:Nat} {vs:List Value},VRs E bxs pl c xs vs->VRs E bxs pl c (xs.take n) (vs.take n):=by
 intro xs
 induction xs with
 |nil=>grind [VRs]
 |cons x xs ih=>
  intro c n vs h;cases vs with
  |nil=>exact h.elim
  |cons v vs=>
   cases n with
   |zero=>trivial
   |succ n=>exact⟨h.1,ih h.2⟩
theorem sD{E:Env}{bxs:Nat->Prop}{pl:Pl}:∀ {xs ys:List CV} {c:Nat} {vs ws:List Value},VRs E bxs pl c xs vs->VRs E bxs pl (c+xs.length) ys ws->VRs E bxs pl c (xs++ys) (vs++ws):=by
 intro xs
 induction xs with
 |nil=>grind [VRs]
 |cons x xs ih=>
  intro ys c vs ws h h2;cases vs with
  |nil=>exact h.elim
  |cons v vs=>exact⟨h.1,ih h.2 (by grind)⟩
theorem gN{E:Env}{bxs:Nat->Prop}{pl:Pl}{c:Nat}{g:Bool}{xs:List CV}{vs:List Value}(h:VRs E bxs pl c xs vs)(hg:g=false->xs.length=1):VR1 E bxs pl c g xs (fB g vs):=by
 cases g with
 |true=>exact⟨vs.toArray,rfl,by grind⟩
 |false=>
  have hl:=hg rfl;have hv:=bB h
  match vs,(by omega:vs.length=1) with
  | [v],_=>exact h
theorem bH{E:Env}{bxs:Nat->Prop}{pl:Pl}:∀ {xs:List CV} {c j:Nat} {vs:List Value} {x:CV} {v:Value},VRs E bxs pl c xs vs->xs[j]? =some x->vs[j]? =some v->VRc E bxs pl (c+j) x v:=by
 intro xs
 induction xs with
 |nil=>grind
 |cons y xs ih=>
  intro c j vs x v h h1 h2;cases vs with
  |nil=>grind
  |cons w vs=>
   cases j with
   |zero=>simp at h1 h2;subst h1 h2;exact h.1
   |succ j=>rw [show c+(j+1)=c+1+j from by omega];exact ih h.2 (by grind) (by grind)
theorem cH{E:Env}{bxs:Nat->Prop}{pl:Pl}:∀ {xs:List CV} {c:Nat} {vs:List Value},xs.length=vs.length->(∀j x v,xs[j]? =some x->vs[j]? =some v->VRc E bxs pl (c+j) x v)->VRs E bxs pl c xs vs:=by
 intro xs
 induction xs with
 |nil=>grind [VRs]
 |cons x xs ih=>
  intro c vs hl h;cases vs with
  |nil=>grind
  |cons v vs=>exact⟨h 0 x v rfl rfl,ih (by grind) fun j y w h1 h2=>by rw [show c+1+j=c+(j+1) from by omega];simp_all⟩
theorem mU{P:Program}{w:World}{t:TypeId}{i:TI}(h:TIok P t i){b off:Nat}{vs:List Value}(hl:vs.length=i.sz)(hc:∀j v,vs[j]? =some v->w.cell? ⟨b,off+j,none⟩=some v):
 (Instr.loadAt t (.pointer (some ⟨b,off,none⟩))).run P w= .ok (fB i.agg vs) w:=by
 obtain⟨ti,d,h1,h2,h3,h4,h5,_⟩:=h.info;have hagg:(isAgg t).run P w= .ok i.agg w:=by
  unfold isAgg;rw [Sem.run_bind,run_underlying h3];simp only [Result.andThen_ok];rw [<-h4];cases d <;>rfl
 have hlc:=run_loadCells_list (P:=P) w ⟨b,off,none⟩ vs (fun j v hv=>by grind [dU]);simp only [Instr.loadAt,Instr.sureAddr,Sem.run_bind,Sem.run_pure,Result.andThen_ok,loadVar,hagg];cases hg:i.agg with
 |true=>
  simp only [Ys,Sem.run_bind,sizeOf,typeInfo,run_program,Result.andThen_ok,h1,Sem.run_pure,h2,<-hl,hlc]
  rfl
 |false=>
  have hs:=h5 hg
  match vs,(by omega:vs.length=1) with
  | [v],_=>
    have:=hc 0 v rfl;simp only [YY,if_false,run_load];rw [show(⟨b,off,none⟩:Addr)=⟨b,off+0,none⟩ from rfl,this]
    rfl
theorem fQ(f:Fl)(T:Ty)(x:T.den)(c:CV)(h:c∈T.enc f x):(∃k n,c= .int k n)\/(∃s,c= .str s)\/(∃U ys,c= .sl f U ys):=by
 cases T <;>simp [Ty.enc] at h <;>(try rcases h with h|h|h|h|h|h|h|h|h|h|h) <;>simp_all
theorem yF{E:Env}{bxs:Nat->Prop}{f:Fl}(hf:f= .ro\/f= .bor){k k' :Pl}{c c' j:Nat}{T:Ty}{x:T.den}{y:CV}{v:Value}{d:D}(hy:y∈T.enc f x)(hd:y.toD=d)
 (h:RdP E.w (fun p=>okF E k c f ((0,j)::p)) (fun p=>qF E k c f ((0,j)::p)) v d):VRc E bxs k' c' y v:=by
 rcases fQ f T x y hy with ⟨kd,n,rfl⟩|⟨s,rfl⟩|⟨U,ys,rfl⟩
 ·subst hd;cases h;exact rfl
 ·subst hd;cases h;exact⟨_,rfl,rfl⟩
 ·subst hd;rcases hf with rfl|rfl <;>exact h
theorem gF{α:Type}:∀ {l:List α} {n:Nat} {vs r:List α},cF l n vs=some r->r.length=l.length/\n+vs.length<=l.length:=by
 intro l
 induction l with
 |nil=>
  intro n vs r h;cases n with
  |zero=>
   grind [cF]
  |succ n=>grind [cF]
 |cons x l ih=>
  intro n vs r h;cases n with
  |zero=>
   grind [cF]
  |succ n=>
   grind [cF,Option.map_eq_some_iff]
theorem gE{α:Type}:∀ {l:List α} {n:Nat} {vs r:List α},cF l n vs=some r->∀j,r[j]? =if n<=j/\j<n+vs.length then vs[j - n]? else l[j]? :=by
 intro l
 induction l with
 |nil=>
  intro n vs r h j;cases n with
  |zero=>
   grind [cF]
  |succ n=>grind [cF]
 |cons x l ih=>
  intro n vs r h j;cases n with
  |zero=>
   grind [cF]
  |succ n=>
   grind [cF,Option.map_eq_some_iff]
theorem rQ{dk:Pl->Nat->Prop}{mu:Prop}{pl:Pl}:∀ {xs' xs:List CV} {c:Nat},xs'.length=xs.length->(∀j x' x,xs'[j]? =some x' ->xs[j]? =some x->CW dk mu pl (c+j) x' x)->CWs dk mu pl c xs' xs:=by
 intro xs'
 induction xs' with
 |nil=>intro xs c hl _;cases xs with
  |nil=>exact .nil
  |cons x xs=>grind
 |cons x' xs' ih=>
  intro xs c hl h;cases xs with
  |nil=>grind
  |cons x xs=>exact .cons (h 0 x' x rfl rfl) (ih (by grind) fun j y' y h1 h2=>by rw [show c+1+j=c+(j+1) from by omega];simp_all)
theorem fN{σ:St}{u u' :Ups}{s:Nat}{cs:List CV}(h:Mr (dC s) σ u=some (cs,u')):St.get (u++σ) (2*s+1)= .v true cs/\u' =u:=by
 obtain⟨b,u1,h1,h2⟩:=aD h
 grind [bT,aF,aE]
theorem VRc.bxs{E:Env}{bxs bxs' :Nat->Prop}(h:∀s,bxs s->bxs' s){k:Pl}{c:Nat}{x:CV}{v:Value}(hv:VRc E bxs k c x v):VRc E bxs' k c x v:=
 VRc.step (E' :=E) (dk:=fun _ _=>False) (db:=fun _=>True) (mu:=False) ⟨fun b hb=>⟨fun _=>hb,fun o ho=>⟨rfl,ho⟩⟩,fun b k c p hb _=>⟨hb,rfl,rfl⟩,fun _ b o ho=>⟨rfl,ho⟩,fun s _ h=>(h trivial).elim,rfl⟩
  (fun s hs=>⟨h s hs,rfl⟩) (by simp) (by simp) (by simp) hv
section
variable {C:Ctx} {σ:St} {a:Act} {E:Env} {u u' u'' :Ups} {tt:TT} {o:Oper} {md:Md} {v:AV} {ob:List Prop} {ty:TypeId}
theorem sF(k:Nat):∀(cs:List CV) (c j:Nat),(cV k c cs)[j]? =(cs[j]?).map fun x=>x.alias k (c+j) []:=by
 intro cs
 induction cs with
 |nil=>grind [cV]
 |cons x cs ih=>
  grind [cV]
theorem sG(k c:Nat)(p:List (Nat×Nat))(i:Nat):∀(cs:List CV) (d j:Nat),(eB k c p i d cs)[j]? =(cs[j]?).map fun x=>x.alias k c (p++ [(i,d+j)]):=by
 intro cs
 induction cs with
 |nil=>grind [eB]
 |cons x cs ih=>
  grind [eB]
theorem wN{w:World}(htt:aP C.P tt)(hi:Inv C (St.get (u++σ)) a.tmps E)(hw:E.w=w){t:TypeId}{x:Operand}(ho:o.op= .load t x){i:TI}(hti:tt.get t=some i)
 {s off:Nat} (hx:∀pl j,VRc E (aA (St.get (u++σ))) pl j (.ptr s off) (a.eval x)) (h:Mr (mB md i s off) σ u=some ((v,ob),u')):
 Good C (u' ++σ) a w o v:=by
 unfold mB at h;obtain⟨cs,u1,h1,h2⟩:=aD h;obtain⟨hg,rfl⟩:=fN h1;obtain⟨hlen,h2⟩:=aU h2;have hlen:off+i.sz<=cs.length:=Nat.le_of_ble_eq_true hlen;obtain⟨hown,vals,ety,hh,hv⟩:=hi.box s cs hg;have hvl:=bB hv;have hA:a.eval x= .pointer (some ⟨E.bx s,off,none⟩):=(hx (.h 0) 0).1;have hsub:VRs E (aA (St.get (u1++σ))) (.k (2*s+1)) (0+off) ((cs.drop off).take i.sz) ((vals.toList.drop off).take i.sz):=nH (nG hv (by omega));have hsl:((vals.toList.drop off).take i.sz).length=i.sz:=by grind
 have hcl:((cs.drop off).take i.sz).length=i.sz:=by grind
 have hg1:i.agg=false->((cs.drop off).take i.sz).length=1:=by
  obtain⟨_,_,_,_,_,_,h5,_⟩:=(htt t i hti).info
  grind
 have run:(execOp a.eval o).run C.P w= .ok (.value (fB i.agg ((vals.toList.drop off).take i.sz))) w:=by
  rw [oO ho,hA,mU (htt t i hti) hsl (fun j v hj=> ?_)]
  ·rfl
  grind [World.cell?]
 cases md with
 |cp=>
  obtain⟨rfl,_,rfl⟩:=cC h2;exact⟨_,w,run,E,hw,hi,VR1.imp (fun j x v _ hv=>hv.cp) (gN hsub hg1)⟩
 |ref=>
  obtain⟨rfl,_,rfl⟩:=cC h2;refine⟨_,w,run,E,hw,hi,gN (c:=0) (cH ?_ fun j y z h1 h2=> ?_) ?_⟩
  ·rw [<-bB hsub];have:(cV (2*s+1) 0 cs).length=cs.length:=by
    have key:∀(l:List CV) c,(cV (2*s+1) c l).length=l.length:=by
     intro l;induction l with
     |nil=>intro c;rfl
     |cons x l ih=>grind [cV]
    grind
   grind
  ·have hj:j<i.sz:=by
    grind
   rw [List.getElem?_take_of_lt hj,List.getElem?_drop,sF,Zi] at h1
   grind [bH,VRc.alias]
  ·intro h;have:=hg1 h;have key:∀(l:List CV) c,(cV (2*s+1) c l).length=l.length:=by
    intro l;induction l with
    |nil=>intro c;rfl
    |cons x l ih=>grind [cV]
   grind
 |take=>
  obtain⟨new,u2,h3,h4⟩:=aD h2;obtain⟨hset,rfl⟩:=cZ h3;obtain⟨_,u3,h5,h6⟩:=aD h4;obtain rfl:=bP h5;obtain⟨rfl,_,rfl⟩:=cC h6;have hr:=qL (2*s+1) off i.sz 0;have hb:∀s',aA (St.get (u2++σ)) s' ->aA (St.get (((2*s+1,.v true new)::u2)++σ)) s' :=by
   intro s' hs';by_cases e:s' =s
   ·subst e;exact⟨new,by grind [St.get_cons]⟩
   grind [dX]
  refine⟨_,w,run,E.rel (dI (2*s+1) off i.sz 0),hw,hi.rel hr rfl hb (fun t' => .inr ⟨?_,rfl⟩) (fun s' cs' hs' => ?_),?_⟩
  ·show AWk _ _ _ (St.get ((2*s+1,_)::(u2++σ)) _) _;rw [St.get_cons,Za (by omega)];refine AWk.map (fun c x=>CW.stale (fun _ hd=> ?_) (fun k c hd=> ?_) (fun h=>h.elim)) _
   ·rcases hd with ⟨hd,_⟩|hd
    all_goals grind
   ·rcases hd with ⟨hd,_⟩|hd
    all_goals grind
  ·by_cases e:s' =s
   ·subst e;have e1:St.get ((2*s' +1,.v true new)::(u2++σ)) (2*s' +1)= .v true cs' :=hs';rw [St.get_cons,Zt rfl] at e1;injection e1 with _ e1;subst e1;refine .inr ⟨cs,hg,rQ (by grind [gF,List.length_map]) fun j x' x h7 h8=> ?_⟩;rw [gE hset] at h7;simp only [Zm,List.length_take,List.length_drop] at h7;split at h7
    ·grind [pZ]
    ·rename_i hr';rw [Ze,h8] at h7;simp at h7;subst h7;refine mL fun _ hd=> ?_;rcases hd with ⟨_,hd1,hd2⟩|hd
     all_goals grind
   ·obtain⟨cs,hc,rfl⟩:=eU (by omega) hs';refine .inr ⟨cs,hc,CWs.map (fun c x=>CW.stale (fun _ hd=> ?_) (fun k c hd=> ?_) (fun h=>h.elim)) _ _⟩
    ·rcases hd with ⟨hd,_⟩|hd
     all_goals grind
    ·rcases hd with ⟨hd,_⟩|hd
     all_goals grind
  ·have h9:VRs (E.rel (dI (2*s+1) off i.sz 0)) (aA (St.get (((2*s+1,.v true new)::u2)++σ))) (.h 0) 0 (((cs.drop off).take i.sz).map CV.noAl) ((vals.toList.drop off).take i.sz):=by
    refine VRs.impLt (fun j x v hj hv=> ?_) hsub;rw [hcl] at hj;have h4:VRc E (aA (St.get (u2++σ))) (.k (2*s+1)) (0+off+j) x.noAl v:=by
     cases x with
     |sl f T xs=>cases f <;>first |exact hv|exact hv.one
     |eref k c p i T x off=>exact hv.one
     |apd k c p T xs=>exact hv.one
     |_=>exact hv
    refine VRc.bxs hb (h4.rel hr (fun _ p=> ?_) (fun k1 c1 hs=>absurd hs (kK _ _ _)))
    grind [dI]
   have h10:=gN (g:=i.agg) h9 (fun h=>by grind);show VR1 _ _ _ 0 i.agg _ _
   simp_all
theorem uV{w:World}(htt:aP C.P tt)(hi:Inv C (St.get (u++σ)) a.tmps E)(hw:E.w=w){t k f p n:Nat}(ho:o.op= .field t (.tmp k) f){i:TI}(hti:tt.get t=some i)(hp:i.offs[f]? =some p)(hn:i.fsz[f]? =some n)
 {cs:List CV} (hg:St.get (u++σ) (2*k)= .v true cs) (hl:p+n<=cs.length):Good C (u++σ) a w o (.v (!n.beq 1) (((cs.drop p).take n).map CV.cp)):=by
 have hx:=hi.tmp k;rw [hg] at hx;obtain⟨vs,e1,hv⟩:=hx;obtain⟨fs,g1,g2⟩:∃fs:Array Field,C.P.underlying t=some (.struct fs)/\∀(f p:Nat),i.offs[f]? =some p->∃(fl:Field) (tj:TypeInfo),fs[f]? =some fl/\fl.offset=p/\C.P.info? fl.type=some tj/\tj.size≠0/\i.fsz[f]? =some tj.size:=by
  rcases(htt t i hti).fields with h|h
  ·simp [h] at hp
  ·exact h
 obtain⟨fl,tj,h1,h2,h3,h4,h5⟩:=g2 f p hp;obtain⟨d,h6,h7⟩:=(htt t i hti).aggs fs g1 f p n fl hp hn h1;have hsz:tj.size=n:=by simp_all
 have hvl:=bB hv;have hvs:=nH (n:=n) (nG (n:=p) hv (by omega));have hlen:((cs.drop p).take n).length=n:=by simp;omega
 have h8:=gN (g:= !n.beq 1) hvs fun h=>by simp at h;omega
 refine⟨_,w,?_,E,hw,hi,VR1.impLt (fun j x v hj hv=>hv.cp) h8⟩;rw [uK ho,show a.eval (.tmp k)= .agg vs from e1];have hagg:(isAgg fl.type).run C.P w= .ok (!n.beq 1) w:=by
  unfold isAgg;rw [Sem.run_bind,run_underlying h6];simp only [Result.andThen_ok];rw [<-h7];cases d <;>rfl
 simp only [Instr.field,Sem.run_bind,run_underlying g1,Result.andThen_ok,h1,asAgg,Sem.run_pure,part,hagg];cases hb:n.beq 1
 ·simp only [jV,Ys,Sem.run_bind,sizeOf,typeInfo,run_program,Result.andThen_ok,h3,Sem.run_pure,hsz,h2,dT];have e:vs.extract p (p+n)=((vs.toList.drop p).take n).toArray:=Yg (by simp [Array.toList_extract,List.extract]);rw [e];rfl
 ·have:=Zj hb;subst this;obtain⟨v,hv0⟩:∃v,vs[p]? =some v:=⟨_,YP (by simpa using(by omega:p<vs.toList.length))⟩;simp [h2,hv0,dT,fB,List.head?_take,List.head?_drop]
end
theorem lP{f:Fl}{T:Ty}{x:T.den}{j:Nat}{y:CV}(h:(T.enc f x)[j]? =some y):∃hj:j<(T.toD x).length,(T.toD x)[j]=y.toD/\y∈T.enc f x:=by
 grind [Ty.enc_toD]
section
variable {C:Ctx} {σ:St} {a:Act} {E:Env} {u u' u'' :Ups} {tt:TT} {o:Oper} {md:Md} {v:AV} {ob:List Prop} {ty:TypeId}
theorem mA{w:World}(htt:aP C.P tt)(hi:Inv C (St.get (u++σ)) a.tmps E)(hw:E.w=w){t:TypeId}{x:Operand}(ho:o.op= .load t x){i:TI}(hti:tt.get t=some i)
 {b off:Nat} (hx:a.eval x= .pointer (some ⟨b,off,none⟩)) {cs:List CV} (hl:cs.length=i.sz) {g:Nat->Value}
 (hc:∀j y,cs[j]? =some y->w.cell? ⟨b,off+j,none⟩=some (g j)/\VRc E (aA (St.get (u++σ))) (.h 0) (0+j) y (g j)):Good C (u++σ) a w o (.v i.agg cs):=by
 have hv:VRs E (aA (St.get (u++σ))) (.h 0) 0 cs ((List.range i.sz).map g):=by
  grind [cH]
 refine⟨fB i.agg ((List.range i.sz).map g),w,?_,E,hw,hi,gN hv fun h=> ?_⟩
 ·rw [oO ho,hx,mU (htt t i hti) (vs:=(List.range i.sz).map g) (by simp) (fun j z hj=> ?_)]
  ·rfl
  ·rw [Ze] at hj;have hj' :j<i.sz:=by
    grind
   simp_all
 ·obtain⟨_,_,_,_,_,_,h5,_⟩:=(htt t i hti).info
  grind
theorem mZ{cs:List CV}{off m j:Nat}{y:CV}(h:((cs.drop off).take m)[j]? =some y):cs[off+j]? =some y/\j<m:=by
 grind
theorem wO{w:World}(htt:aP C.P tt)(hi:Inv C (St.get (u++σ)) a.tmps E)(hw:E.w=w){t:TypeId}{x:Operand}(ho:o.op= .load t x){i:TI}(hti:tt.get t=some i)
 {f:Fl} {T:Ty} {y:T.den} {off:Nat} (hx:VRc E (aA (St.get (u++σ))) (.h 0) 0 (.eptr f T y off) (a.eval x)) (hl:off+i.sz<=T.sz):
 Good C (u++σ) a w o (.v i.agg (((T.enc f y).drop off).take i.sz)):=by
 obtain⟨hf,b,o',e,g,hg⟩:=hx;refine mA htt hi hw ho hti e (by grind [Ty.enc_length]) (g:=fun j=>g (off+j)) fun j z hz=> ?_;obtain⟨h1,h2⟩:=mZ hz;obtain⟨hj,h3,h4⟩:=lP h1;obtain⟨k1,k2,k3⟩:=hg (off+j) hj;rw [<-hw,ZA];exact⟨k1,yF hf h4 h3.symm k3⟩
theorem qG{E:Env}{bxs:Nat->Prop}{k c:Nat}{p:List (Nat×Nat)}{n j:Nat}{pl pl' :Pl}{c' d' :Nat}{T:Ty}{x:T.den}{z:CV}{v:Value}(hz:z∈T.enc .own x)
 (h:RdP E.w (fun q=>okF E pl c' (.al k c p) ((n,j)::q)) (fun q=>qF E pl c' (.al k c p) ((n,j)::q)) v z.toD):VRc E bxs pl' d' (z.alias k c (p++ [(n,j)])) v:=by
 rcases fQ _ T x z hz with ⟨kd,m,rfl⟩|⟨s,rfl⟩|⟨U,ys,rfl⟩
 ·cases h;exact rfl
 ·cases h;exact⟨_,rfl,rfl⟩
 ·refine RdP.mono h (fun q b o ho=>⟨rfl,ho.1,?_⟩) (fun q v sz ht=> ?_)
  ·rw [Z5];exact ho.2
  ·show Tip _ _ _ _;rw [Z5];exact ht
theorem uC{T:Ty}{x:T.den}:T.enc .bor x=(T.enc .own x).map CV.cp:=by cases T <;>rfl
theorem wP{w:World}(htt:aP C.P tt)(hi:Inv C (St.get (u++σ)) a.tmps E)(hw:E.w=w){t:TypeId}{x:Operand}(ho:o.op= .load t x){i:TI}(hti:tt.get t=some i)
 {k c n:Nat} {p:List (Nat×Nat)} {T:Ty} {y:T.den} {off:Nat} (hx:VRc E (aA (St.get (u++σ))) (.h 0) 0 (.eref k c p n T y off) (a.eval x)) (hl:off+i.sz<=T.sz):
 Good C (u++σ) a w o (.v i.agg (((T.enc .bor y).drop off).take i.sz))/\Good C (u++σ) a w o (.v i.agg (((eB k c p n 0 (T.enc .own y)).drop off).take i.sz)):=by
 obtain⟨b,e,_,_,g,hg⟩:=hx;refine⟨mA htt hi hw ho hti e (by grind [Ty.enc_length]) (g:=fun j=>g (off+j)) fun j z hz=> ?_,mA htt hi hw ho hti e ?_ (g:=fun j=>g (off+j)) fun j z hz=> ?_⟩
 ·obtain⟨h1,h2⟩:=mZ hz;rw [uC,Ze,Zi] at h1;obtain⟨z0,h1,rfl⟩:=h1;obtain⟨hj,h3,h4⟩:=lP h1;obtain⟨k1,k3⟩:=hg (off+j) hj;rw [<-hw,ZA];refine⟨k1,?_⟩;rw [h3] at k3;have:=qG (bxs:=aA (St.get (u++σ))) (pl' := .h 0) (d' :=0+j) h4 k3;rcases fQ _ T y z0 h4 with ⟨kd,m,rfl⟩|⟨s,rfl⟩|⟨U,ys,rfl⟩
  ·exact this
  ·exact this
  ·exact RdP.mono this (fun q b o ho=>⟨rfl,ho.1⟩) (fun _ _ _ _=>trivial)
 ·have key:∀(l:List CV) d,(eB k c p n d l).length=l.length:=by
   intro l;induction l with
   |nil=>intro c;rfl
   |cons x l ih=>grind [eB]
  grind [Ty.enc_length]
 ·obtain⟨h1,h2⟩:=mZ hz;rw [sG,Zi] at h1;obtain⟨z0,h1,rfl⟩:=h1;obtain⟨hj,h3,h4⟩:=lP h1;obtain⟨k1,k3⟩:=hg (off+j) hj;rw [<-hw,ZA];refine⟨k1,?_⟩;rw [h3] at k3;rw [show 0+(off+j)=off+j from by omega];exact qG h4 k3
end
theorem yX{w:World}{b o:Nat}{v:Value}{cs:Array Value}{ty:TypeId}{fr:Nat×Nat}(h:w.heap[b]? =some (.cells cs ty fr)):
 (w.setCell ⟨b,o,none⟩ v).heap[b]? =some (.cells (cs.setIfInBounds o v) ty fr):=by
 grind [World.setCell]
theorem yY{w:World}{b o k:Nat}{v:Value}(h:k≠b):(w.setCell ⟨b,o,none⟩ v).heap[k]? =w.heap[k]? :=by
 grind [World.setCell]
theorem d8(b k:Nat)(h:k≠b):∀(vs:List Value) (o:Nat) (w:World),(w.setCells b o vs).heap[k]? =w.heap[k]?
 | [],_,_=>rfl
 |v::r,o,w=>by rw [World.setCells,d8 b k h r,yY h]
theorem dM(b:Nat):∀(vs:List Value) (o:Nat) (w:World),(w.setCells b o vs).heap.size=w.heap.size
 | [],_,_=>rfl
 |v::r,o,w=>by rw [World.setCells,dM b r];simp_all
theorem dR(b:Nat):∀(vs:List Value) (o:Nat) (w:World),(w.setCells b o vs).os=w.os/\(w.setCells b o vs).tape=w.tape/\(w.setCells b o vs).output=w.output
 | [],_,_=>⟨rfl,rfl,rfl⟩
 |v::r,o,w=>by rw [World.setCells];exact dR b r _ _
theorem dQ(b:Nat):∀(vs:List Value) (o:Nat) (w:World) {cs:Array Value} {ty:TypeId} {fr:Nat×Nat},w.heap[b]? =some (.cells cs ty fr)->
 ∃cs',(w.setCells b o vs).heap[b]? =some (.cells cs' ty fr)/\cs'.size=cs.size/\∀j,cs'[j]? =if o<=j/\j<o+vs.length/\j<cs.size then vs[j - o]? else cs[j]?
 | [],o,w,cs,ty,fr,h=>⟨cs,h,rfl,fun j=>by grind⟩
 |v::r,o,w,cs,ty,fr,h=>by
  obtain⟨cs',h1,h2,h3⟩:=dQ b r (o+1) (w.setCell ⟨b,o,none⟩ v) (yX h);refine⟨cs',h1,by grind,fun j=> ?_⟩
  grind
theorem Step.trans{E E1 E2:Env}{dk dk' :Pl->Nat->Prop}{db db' :Nat->Prop}{mu mu' :Prop}(h:Step E E1 dk db mu)(h' :Step E1 E2 dk' db' mu'):
 Step E E2 (fun k c=>dk k c\/dk' k c) (fun s=>db s\/db' s) (mu\/mu') where
 ro:=fun b hb=>by
  obtain⟨a,c⟩:=h.ro b hb;by_cases hz:0<E.hw b
  ·obtain⟨a',c'⟩:=h'.ro b (a hz)
   grind
  grind
 own:=fun b k c p hb hk=>by
  obtain⟨a1,a2,a3⟩:=h.own b k c p hb fun hd=>hk (.inl hd);obtain⟨b1,b2,b3⟩:=h'.own b k c p a1 fun hd=>hk (.inr hd)
  grind
 bor:=fun hm b o ho=>by
  obtain⟨a1,a2⟩:=h.bor (fun hd=>hm (.inl hd)) b o ho;obtain⟨b1,b2⟩:=h'.bor (fun hd=>hm (.inr hd)) b o a2
  grind
 box:=fun s hs hd=>by
  obtain⟨a1,a2,a3⟩:=h.box s hs fun h=>hd (.inl h);obtain⟨b1,b2,b3⟩:=h'.box s (by grind) fun h=>hd (.inr h)
  grind
 hdr:=h'.hdr.trans h.hdr
theorem Step.imp{E E1:Env}{dk dk' :Pl->Nat->Prop}{db db' :Nat->Prop}{mu mu' :Prop}(h:Step E E1 dk db mu)(h1:∀k c,dk k c->dk' k c)(h2:∀s,db s->db' s)(h3:mu->mu'):
 Step E E1 dk' db' mu' :=
 ⟨h.ro,fun b k c p hb hk=>h.own b k c p hb fun hd=>hk (h1 _ _ hd),fun hm=>h.bor fun h=>hm (h3 h),fun s hs hd=>h.box s hs fun h=>hd (h2 _ h),h.hdr⟩
def bR(q off m:Nat):Own->Option Own
 | .arr (.k k) c p=>if k=q/\off<=c/\c<off+m then none else some (.arr (.k k) c p)
 | .arr (.h j) c p=>if j=0 then(if c<m then some (.arr (.k q) (off+c) p) else none) else some (.arr (.h j) c p)
 | .box s=>some (.box s)
def dkS(q off m:Nat):Pl->Nat->Prop:=fun pl c=>(pl= .k q/\off<=c/\c<off+m)\/pl= .h 0
theorem rF(q off m:Nat):RhoOk (bR q off m) (dkS q off m) where
 box:=fun _=>rfl
 id:=fun k c p h=>by
  unfold dkS at h;cases k with
  |k n=>
   grind [bR]
  |h n=>grind [bR]
 inj:=fun l1 l2 l h1 h2=>by
  unfold bR at h1 h2
  grind
 arr:=fun k c p s=>by
  cases k <;>simp only [bR] <;>(grind) <;>simp
section
variable {C:Ctx} {σ:St} {a:Act} {E:Env} {u u' u'' :Ups} {tt:TT} {o:Oper} {md:Md} {v:AV} {ob:List Prop} {ty:TypeId}
theorem s0{E:Env}{s:Nat}{w' :World}(hs:E.ow (E.bx s)=some (.box s))(h0:E.hw (E.bx s)=0)(hinj:∀b b' l,E.ow b=some l->E.ow b' =some l->b=b')
 (hw:∀k,k≠E.bx s->w'.heap[k]? =E.w.heap[k]?):Step E { E with w:=w' } (fun _ _=>False) (fun s' =>s' =s) False where
 ro:=fun b hb=>⟨fun _=>hb,fun o ho=>⟨bD (hw b fun e=>by grind) o,ho⟩⟩
 own:=fun b k c p hb _=>⟨hb,rfl,hw b fun e=>by grind⟩
 bor:=fun _ b o ho=>⟨bD (hw b fun e=>by grind) o,ho⟩
 box:=fun s' hs' hd=>⟨rfl,hs',hw _ fun e=>by
  grind⟩
 hdr:=rfl
theorem y9{w:World}(hi:Inv C (St.get (u++σ)) a.tmps E)(hw:E.w=w){s off:Nat}{cs vs cs' :List CV}{g:Bool}{val:Value}(hg:St.get (u++σ) (2*s+1)= .v true cs)
 (hv:VR1 E (aA (St.get (u++σ))) (.h 0) 0 g vs val) (hns:∀y∈vs,∀k c,¬y.speaks k c) (hset:cF (cs.map CV.noAl) off vs=some cs'):
 ∃w',(storeCells ⟨E.bx s,off,none⟩ val.cells.toList 0).run C.P w= .ok () w' /\val.cells.size=vs.length/\
  Hand C (((2*s+1,.v true cs')::u)++σ) a.tmps w' 0 .none undef:=by
 obtain⟨hown,vals,ety,hh,hbv⟩:=hi.box s cs hg;have hvl:=bB hbv;obtain⟨ws,hws,hvs,hone⟩:∃ws:List Value,val.cells.toList=ws/\VRs E (aA (St.get (u++σ))) (.h 0) 0 vs ws/\∀x∈ws,x.oneCell' =true:=by
  have one:∀ {xs:List CV} {c:Nat} {zs:List Value},VRs E (aA (St.get (u++σ))) (.h 0) c xs zs->∀x∈zs,x.oneCell' =true:=by
   intro xs
   induction xs with
   |nil=>intro c zs h x hx;cases zs with
    |nil=>grind
    |cons z zs=>exact h.elim
   |cons y xs ih=>
    intro c zs h x hx;cases zs with
    |nil=>grind
    |cons z zs=>
     cases hx with
     |head=>exact h.1.one
     |tail _ hx=>exact ih h.2 x hx
  cases g with
  |true=>obtain⟨ws,rfl,h⟩:=hv;exact⟨ws.toList,rfl,h,one h⟩
  |false=>
   have h1:∀x∈ [val],x.oneCell' =true:=one hv;have:val.cells= #[val]:=by
    have:=h1 val (by simp);cases val <;>first |rfl|grind [Value.oneCell']
   exact⟨[val],by grind,hv,h1⟩
 have hlen:=bB hvs;have hoff:=(gF hset).2;rw [Zm] at hoff;have hszv:vals.size=cs.length:=by grind
 have hcell:∀j,j<ws.length->(w.cell? ⟨E.bx s,off+0+j,none⟩).isSome=true:=by
  grind [World.cell?]
 have hfro:∀j,j<ws.length->w.frozen? ⟨E.bx s,off+0+j,none⟩=false:=by
  grind [World.frozen?]
 have run:=run_storeCells_cells (P:=C.P) (E.bx s) off ws 0 w hcell hfro hone;refine⟨w.setCells (E.bx s) (off+0) ws,by grind,by grind,?_⟩;rw [Nat.add_zero];obtain⟨vals',h1,h2,h3⟩:=dQ (E.bx s) ws off w (by rw [<-hw];exact hh);have hr:=rF (2*s+1) off vs.length;have hbs:(E.rel (bR (2*s+1) off vs.length)).ow (E.bx s)=some (.box s):=by grind [Env.rel,bR]
 have hinj:∀b b' l,(E.rel (bR (2*s+1) off vs.length)).ow b=some l->(E.rel (bR (2*s+1) off vs.length)).ow b' =some l->b=b' :=by
  intro b b' l g1 g2;simp only [Env.rel,Zq] at g1 g2;obtain⟨l1,a1,c1⟩:=g1;obtain⟨l2,a2,c2⟩:=g2;have:=hr.inj _ _ _ c1 c2;subst this;exact hi.inj _ _ _ a1 a2
 have st2:=s0 (E:=E.rel (bR (2*s+1) off vs.length)) (s:=s) (w' :=w.setCells (E.bx s) off ws) hbs (hi.boxhw _ _ hown) hinj (fun k hk=>by rw [<-hw];exact d8 _ _ hk _ _ _);have st:=((f9 hr).trans st2).imp (dk' :=dkS (2*s+1) off vs.length) (db' :=fun s' =>s' =s) (mu' :=False) (fun k c h=>h.elim id fun h=>h.elim) (fun s' h=>h.elim (fun h=>h.elim) id) (fun h=>h.elim id id);have hb:∀s',aA (St.get (u++σ)) s' ->aA (St.get (((2*s+1,.v true cs')::u)++σ)) s' :=by
  intro s' hs';by_cases e:s' =s
  ·subst e;exact⟨cs',by grind [St.get_cons]⟩
  grind [dX]
 have hold:∀b,b<C.B->C.ow0 b=none->b≠E.bx s:=by
  intro b hb h0 e;have:=(hi.old b hb h0).2.2
  grind
 refine⟨_,rfl,hi.step st (by grind [dR]) (by grind [dR]) (by grind [dR]) (by grind [dM])
  (fun b hlt h0=>⟨by grind [d8],rfl,by simp [Env.rel,(hi.old b hlt h0).2.2]⟩)
  (fun b hlt=>by
    have:=hi.new b (by grind [dM])
    grind [Env.rel]) hinj (fun b s' h=> ?_) rfl (fun s' hs' =>⟨hb s' hs',rfl⟩) (fun t' => .inr ⟨?_,rfl⟩) (fun s' cs2 hs' => ?_),trivial⟩
 ·simp only [Env.rel,Zq] at h;obtain⟨l,a1,c1⟩:=h;cases l with
  |box s2=>
   simp only [bR] at c1;exact hi.boxhw b _ a1
  |arr k c p=>exact absurd c1 (hr.arr k c p s')
 ·show AWk _ _ _ (St.get ((2*s+1,_)::(u++σ)) _) _;rw [St.get_cons,Za (by omega)];refine AWk.map (fun c x=>CW.stale (fun _ hd=> ?_) (fun k c hd=> ?_) (fun h=>h.elim)) _
  ·rcases hd with ⟨hd,_⟩|hd
   all_goals grind
  ·rcases hd with ⟨hd,_⟩|hd
   all_goals grind
 ·by_cases e:s' =s
  ·subst e;have e1:St.get ((2*s' +1,.v true cs')::(u++σ)) (2*s' +1)= .v true cs2:=hs';rw [St.get_cons,Zt rfl] at e1;injection e1 with _ e1;subst e1;refine .inl ⟨hbs,vals',ety,h1,cH ?_ fun j y z h4 h5=> ?_⟩
   ·grind [gF,List.length_map]
   ·rw [gE hset] at h4;rw [ZO,h3 j] at h5;by_cases hj:off<=j/\j<off+vs.length
    ·rw [Zt hj] at h4;rw [Zt (by omega)] at h5;have h6:=bH hvs h4 h5;have h7:VRc (E.rel (bR (2*s' +1) off vs.length)) (aA (St.get (u++σ))) (.k (2*s' +1)) (0+j) y z:=by
      refine h6.rel hr (fun _ p=> ?_) (fun k1 c1 hs=>absurd hs (hns y (Zy h4) _ _))
      grind [bR]
     exact VRc.step st2 (fun s hs=>⟨hb s hs,rfl⟩) (by simp) (by simp) (by simp) h7
    ·rw [Za hj,Ze,Zi] at h4;rw [Za (by omega)] at h5;obtain⟨y0,h4,rfl⟩:=h4;have h6:=bH hbv h4 (by rw [ZO];exact h5);have h7:VRc E (aA (St.get (u++σ))) (.k (2*s' +1)) (0+j) y0.noAl z:=by
      cases y0 with
      |sl f T xs=>cases f <;>first |exact h6|exact h6.one
      |eref k c p i T x off=>exact h6.one
      |apd k c p T xs=>exact h6.one
      |_=>exact h6
     refine VRc.step st (fun s hs=>⟨hb s hs,rfl⟩) (fun _ hd=> ?_) (fun k1 c1 hs=>absurd hs (kK _ _ _)) (by simp) h7;rcases hd with ⟨_,hd1,hd2⟩|hd
     all_goals grind
  ·obtain⟨cs0,hc,rfl⟩:=eU (by omega) hs';refine .inr ⟨e,cs0,hc,CWs.map (fun c x=>CW.stale (fun _ hd=> ?_) (fun k c hd=> ?_) (fun h=>h.elim)) _ _⟩
   ·rcases hd with ⟨hd,_⟩|hd
    all_goals grind
   ·rcases hd with ⟨hd,_⟩|hd
    all_goals grind
end
theorem eE{w:World}{o:Obj}{k:Nat}(h:k≠w.heap.size):(w.alloc o).heap[k]? =w.heap[k]? :=by
 show(w.heap.push o)[k]? =_
 grind
theorem iA(w:World)(o:Obj):(w.alloc o).heap[w.heap.size]? =some o:=by
 show(w.heap.push o)[w.heap.size]? =_
 grind
theorem nQ(w:World)(o:Obj):(w.alloc o).heap.size=w.heap.size+1:=Yl _
section
variable {C:Ctx} {σ:St} {a:Act} {E:Env} {u u' u'' :Ups} {tt:TT} {o:Oper} {md:Md} {v:AV} {ob:List Prop} {ty:TypeId}
def Env.newBox(E:Env)(d:Nat)(cells:Array Value)(ty:TypeId):Env:=
 { w:=E.w.alloc (.cells cells ty),hw:=E.hw,hdr:=E.hdr,
   ow:=fun b=>if b=E.w.heap.size then some (.box d) else if E.ow b=some (.box d) then none else E.ow b,
   bx:=fun s=>if s=d then E.w.heap.size else E.bx s }
theorem xH{E:Env}{d:Nat}{cells:Array Value}{ty:TypeId}(hn:E.ow E.w.heap.size=none/\E.hw E.w.heap.size=0):
 Step E (E.newBox d cells ty) (fun _ _=>False) (fun s=>s=d) False where
 ro:=fun b hb=>by
  by_cases e:b=E.w.heap.size
  ·grind
  ·exact⟨fun _=>by grind [Env.newBox],fun o ho=>⟨bD (eE e) o,ho⟩⟩
 own:=fun b k c p hb _=>by
  grind [Env.newBox,eE]
 bor:=fun _ b o ho=>by
  have e:b≠E.w.heap.size:=by grind
  exact⟨bD (eE e) o,ho⟩
 box:=fun s hs hd=>by
  grind [Env.newBox,eE]
 hdr:=rfl
theorem jJ{bxs:Nat->Prop}{pl:Pl}{c:Nat}{g:Bool}{vs:List CV}{val:Value}(hv:VR1 E bxs pl c g vs val):VRs E bxs pl c vs val.cells.toList:=by
 cases g with
 |true=>obtain⟨ws,rfl,h⟩:=hv;exact h
 |false=>
  match vs,hv with
  | [y],hv=>
    have h1:=VRc.one hv.1;have:val.cells= #[val]:=by cases val <;>first |rfl|grind [Value.oneCell']
    rw [this];exact hv
  | [],hv=>exact hv.elim
  |_::_::_,hv=>exact hv.2.elim
theorem nP{w:World}(hi:Inv C (St.get (u++σ)) a.tmps E)(hw:E.w=w){d:Nat}{vs:List CV}{cells:Array Value}{t:TypeId}(hg:St.get (u++σ) (2*d+1)= .none)
 (hv:VRs E (aA (St.get (u++σ))) (.h 0) 0 vs cells.toList) (hns:∀y∈vs,∀k c,¬y.speaks k c):
 Hand C (((2*d+1,.v true vs)::u)++σ) a.tmps (w.alloc (.cells cells t)) 0 (.v false [.ptr d 0]) (.pointer (some ⟨w.heap.size,0,none⟩)):=by
 have hr:=rF (2*d+1) 0 vs.length;have hn:(E.rel (bR (2*d+1) 0 vs.length)).ow E.w.heap.size=none/\E.hw E.w.heap.size=0:=by
  have:=hi.new E.w.heap.size (Zn _)
  grind [Env.rel]
 have st2:=xH (E:=E.rel (bR (2*d+1) 0 vs.length)) (d:=d) (cells:=cells) (ty:=t) hn;have st:=((f9 hr).trans st2).imp (dk' :=dkS (2*d+1) 0 vs.length) (db' :=fun s' =>s' =d) (mu' :=False) (fun k c h=>h.elim id fun h=>h.elim) (fun s' h=>h.elim (fun h=>h.elim) id) (fun h=>h.elim id id);have hnb:¬aA (St.get (u++σ)) d:=by rintro ⟨cs,h⟩;grind
 have hb:∀s',aA (St.get (u++σ)) s' ->aA (St.get (((2*d+1,.v true vs)::u)++σ)) s' :=by
  grind [dX]
 have hd:aA (St.get (((2*d+1,.v true vs)::u)++σ)) d:=⟨vs,by grind [St.get_cons]⟩;have hbx:∀s',aA (St.get (u++σ)) s' ->aA (St.get (((2*d+1,.v true vs)::u)++σ)) s' /\((E.rel (bR (2*d+1) 0 vs.length)).newBox d cells t).bx s' =E.bx s' :=by
  intro s' hs';refine⟨hb s' hs',?_⟩;have:s' ≠d:=by grind
  simp [Env.newBox,this,Env.rel]
 have hsz:C.B<=E.w.heap.size:=hi.size;subst hw
 refine⟨(E.rel (bR (2*d+1) 0 vs.length)).newBox d cells t,rfl,hi.step st rfl rfl rfl (by show _<=(E.w.alloc _).heap.size;simp_all) (fun b hlt h0=> ?_) (fun b hlt=> ?_) (fun b b' l g1 g2=> ?_) (fun b s' h=> ?_) rfl hbx
  (fun t' => .inr ⟨?_,rfl⟩) (fun s' cs2 hs' => ?_),⟨by simp [Env.newBox,Env.rel],hd⟩,trivial⟩
 ·have e:b≠E.w.heap.size:=by omega
  have h1:=(hi.old b hlt h0).2.2
  grind [eE,Env.newBox,Env.rel]
 ·have hlt' :E.w.heap.size+1<=b:=by have:(E.w.alloc (.cells cells t)).heap.size<=b:=hlt;simp_all
  have:=hi.new b (by omega)
  grind [Env.newBox,Env.rel]
 ·have one:∀b l,((E.rel (bR (2*d+1) 0 vs.length)).newBox d cells t).ow b=some l->(b=E.w.heap.size/\l= .box d)\/(l≠ .box d/\∃l1,E.ow b=some l1/\bR (2*d+1) 0 vs.length l1=some l):=by
   grind [Env.newBox,Env.rel,Option.bind_eq_some_iff]
  rcases one b l g1 with ⟨e1,e2⟩|⟨e1,l1,e2,e3⟩ <;>rcases one b' l g2 with ⟨f1,f2⟩|⟨f1,l2,f2,f3⟩
  ·grind
  ·grind
  ·grind
  ·have:=hr.inj _ _ _ e3 f3;subst this;exact hi.inj _ _ _ e2 f2
 ·simp only [Env.newBox] at h;split at h
  ·rename_i e;have e:b=E.w.heap.size:=e;show E.hw b=0;grind
  ·split at h
   ·cases h
   ·simp only [Env.rel,Zq] at h;obtain⟨l,a1,c1⟩:=h;cases l with
    |box s2=>exact hi.boxhw b _ a1
    |arr k c p=>exact absurd c1 (hr.arr k c p s')
 ·show AWk _ _ _ (St.get ((2*d+1,_)::(u++σ)) _) _;rw [St.get_cons,Za (by omega)];refine AWk.map (fun c x=>CW.stale (fun _ hd=> ?_) (fun k c hd=> ?_) (fun h=>h.elim)) _
  ·rcases hd with ⟨hd,_⟩|hd
   all_goals grind
  ·rcases hd with ⟨hd,_⟩|hd
   all_goals grind
 ·by_cases e:s' =d
  ·subst e;have e1:St.get ((2*s' +1,.v true vs)::(u++σ)) (2*s' +1)= .v true cs2:=hs';rw [St.get_cons,Zt rfl] at e1;injection e1 with _ e1;subst e1;refine .inl ⟨by grind [Env.newBox],cells,t,by grind [Env.newBox,iA],cH (bB hv) fun j y z h4 h5=> ?_⟩;have h6:=bH hv h4 h5;have hj:j<vs.length:=by
    grind
   have h7:VRc (E.rel (bR (2*s' +1) 0 vs.length)) (aA (St.get (u++σ))) (.k (2*s' +1)) (0+j) y z:=by
    refine h6.rel hr (fun _ p=> ?_) (fun k1 c1 hs=>absurd hs (hns y (Zy h4) _ _))
    grind [bR]
   exact VRc.step st2 (fun s hs=>hbx s hs) (by simp) (by simp) (by simp) h7
  ·obtain⟨cs0,hc,rfl⟩:=eU (by omega) hs';refine .inr ⟨e,cs0,hc,CWs.map (fun c x=>CW.stale (fun _ hd=> ?_) (fun k c hd=> ?_) (fun h=>h.elim)) _ _⟩
   ·rcases hd with ⟨hd,_⟩|hd
    all_goals grind
   ·rcases hd with ⟨hd,_⟩|hd
    all_goals grind
end
theorem o7(off:Nat):∀(l:List Value) (k:Nat) (cs:Array Value),((l.zipIdx k).foldl (fun cs x=>cs.setIfInBounds (off+x.2) x.1) cs).size=cs.size/\
 ∀j,((l.zipIdx k).foldl (fun cs x=>cs.setIfInBounds (off+x.2) x.1) cs)[j]? =if off+k<=j/\j<off+k+l.length/\j<cs.size then l[j - (off+k)]? else cs[j]?
 | [],k,cs=>⟨rfl,fun j=>by rw [Za];rfl;grind⟩
 |v::r,k,cs=>by
  obtain⟨h1,h2⟩:=o7 off r (k+1) (cs.setIfInBounds (off+k) v)
  grind [List.zipIdx_cons]
def eD(H p m:Nat):Own->Option Own
 | .arr (.k k) c q=>some (.arr (.k k) c q)
 | .arr (.h j) c q=>if j=H then(if p<=c/\c<p+m then none else some (.arr (.h H) c q)) else if j=H+1 then(if c<m then some (.arr (.h H) (p+c) q) else none) else some (.arr (.h j) c q)
 | .box s=>some (.box s)
def dkH(H p m:Nat):Pl->Nat->Prop:=fun pl c=>(pl= .h H/\p<=c/\c<p+m)\/pl= .h (H+1)
theorem vX(H p m:Nat):RhoOk (eD H p m) (dkH H p m) where
 box:=fun _=>rfl
 id:=fun k c q h=>by
  unfold dkH at h;cases k with
  |k n=>rfl
  |h n=>
   grind [eD]
 inj:=fun l1 l2 l h1 h2=>by
  unfold eD at h1 h2
  grind
 arr:=fun k c p s=>by
  cases k <;>simp only [eD] <;>(grind) <;>simp
theorem CW.refl{dk:Pl->Nat->Prop}(h:∀k c,¬dk (.k k) c){k c:Nat}{x:CV}:CW dk False (.k k) c x x:=
 .inr ⟨rfl,fun _=>h k c,fun k c _=>h k c,fun _ h=>h⟩
theorem CWs.refl{dk:Pl->Nat->Prop}(h:∀k c,¬dk (.k k) c)(k c:Nat)(xs:List CV):CWs dk False (.k k) c xs xs:=by
 have:=CWs.map (dk:=dk) (mu:=False) (pl:= .k k) (f:=id) (fun c x=>CW.refl h) xs c
 simp_all
theorem AWk.refl{dk:Pl->Nat->Prop}(h:∀k c,¬dk (.k k) c)(k:Nat)(x:AV):AWk dk False (.k k) x x:=by
 have:=AWk.map (dk:=dk) (mu:=False) (pl:= .k k) (f:=id) (fun c x=>CW.refl h) x
 grind [AV.mapC_id]
section
variable {C:Ctx} {σ:St} {a:Act} {tt:TT}
theorem qH(H:Nat){t:TypeId}{place:Nat->Option (Nat×Nat)}{place' :Nat->Option (Nat×Nat)}(hpl:∀i p n,place i=some (p,n)->place' i=some (p,n)):
 ∀(ps:List (Nat×Operand)) (cs:List CV) (u u' :Ups) (cs' :List CV) (vals:Array Value) (E:Env),Inv C (St.get (u++σ)) a.tmps E->VRs E (aA (St.get (u++σ))) (.h H) 0 cs vals.toList->
  (∀y∈cs,∀k c,¬y.speaks k c)->Mr (fD tt t place ps cs) σ u=some (cs',u')->
  ∃E' vals',Instr.fill place' vals (ps.map fun x=>(x.1,a.eval x.2))=some vals' /\E'.w=E.w/\Inv C (St.get (u' ++σ)) a.tmps E' /\
   VRs E' (aA (St.get (u' ++σ))) (.h H) 0 cs' vals'.toList/\(∀y∈cs',∀k c,¬y.speaks k c):=by
 intro ps
 induction ps with
 |nil=>
  intro cs u u' cs' vals E hi hv hns h;obtain⟨rfl,rfl⟩:=aF h;exact⟨E,vals,rfl,rfl,hi,hv,hns⟩
 |cons p ps ih=>
  intro cs u u' cs' vals E hi hv hns h;obtain⟨i,x⟩:=p;simp only [fD] at h;obtain⟨vs,u1,h1,h2⟩:=aD h;obtain⟨E1,g,e1,e2,e3,e4,e5,e6,e7⟩:=qA hi (H+1) h1;split at h2
  ·rename_i p n hp;obtain⟨hn,h2⟩:=aU h2;obtain⟨cs1,u2,h3,h4⟩:=aD h2;obtain⟨hset,rfl⟩:=cZ h3;have hn:vs.length=n:=Zj hn;have hsl:=gF hset;have hvl:=bB hv;have hcells:=jJ e5;have hcl:=bB hcells;have hr:=vX H p vs.length;have hv1:VRs E1 (aA (St.get (u2++σ))) (.h H) 0 cs vals.toList:=by
    have:=VRs.imp (f:=id) (E:=E) (E' :=E1) (bxs:=aA (St.get (u++σ))) (bxs' :=aA (St.get (u2++σ))) (pl:= .h H) (pl' := .h H) (xs:=cs) (c:=0) (c' :=0) (vs:=vals.toList)
     (fun j x v hx hv=>VRc.step e3 (fun s hs=>⟨e6 s hs,by rw [e2]⟩) (fun _ hd=>by
       grind) (fun k c hs=>absurd hs (hns x hx k c)) (by simp) hv) hv
    simp_all
   have hf:=o7 p (a.eval x).cells.toList 0 vals;have hv2:VRs (E1.rel (eD H p vs.length)) (aA (St.get (u2++σ))) (.h H) 0 cs1 (((a.eval x).cells.zipIdx.foldl (fun cs x=>cs.setIfInBounds (p+x.2) x.1) vals)).toList:=by
    rw [<-Array.foldl_toList,Array.toList_zipIdx];refine cH ?_ fun j y z h5 h6=> ?_
    ·grind
    ·rw [gE hset] at h5;rw [ZO,hf.2 j,Nat.add_zero] at h6;have hvs:vals.size=cs.length:=by grind
     by_cases hj:p<=j/\j<p+vs.length
     ·rw [Zt hj] at h5;rw [Zt ⟨hj.1,by omega,by omega⟩] at h6;have h7:=bH hcells h5 h6;refine h7.rel hr (fun _ q=> ?_) (fun k c hs=>absurd hs (e7 y (Zy h5) k c))
      grind [eD]
     ·rw [Za hj] at h5;rw [Za (by omega)] at h6;have h7:=bH hv1 h5 (by rw [ZO];exact h6);refine h7.rel hr (fun _ q=> ?_) (fun k c hs=>absurd hs (hns y (Zy h5) k c))
      grind [eD]
   have hi2:Inv C (St.get (u2++σ)) a.tmps (E1.rel (eD H p vs.length)):=by
    refine e4.rel hr rfl (fun _ h=>h) (fun t' => .inr ⟨?_,rfl⟩) (fun s cs hs=> .inr ⟨cs,hs,?_⟩)
    ·exact AWk.refl (fun k c hd=>by rcases hd with ⟨hd,_⟩|hd <;>cases hd) _ _
    ·exact CWs.refl (fun k c hd=>by rcases hd with ⟨hd,_⟩|hd <;>cases hd) _ _ _
   have hns2:∀y∈cs1,∀k c,¬y.speaks k c:=by
    intro y hy k c;obtain⟨j,hj⟩:=ZP.1 hy;rw [gE hset] at hj
    grind
   obtain⟨E',vals',k1,k2,k3,k4,k5⟩:=ih cs1 u2 u' cs' _ _ hi2 hv2 hns2 h4;refine⟨E',vals',?_,k2.trans e1,k3,k4,k5⟩
   grind [Instr.fill]
  grind [aE]
end
structure Grown (w w' :World) (cells:Array Value) (ty:TypeId) (fr:Nat×Nat):Prop where
 size:w'.heap.size=w.heap.size+1
 old:∀k,k≠w.heap.size->w'.heap[k]? =w.heap[k]?
 new:w'.heap[w.heap.size]? =some (.cells cells ty fr)
 os:w'.os=w.os
 tape:w'.tape=w.tape
 output:w'.output=w.output
theorem Grown.alloc(w:World)(cells:Array Value)(ty:TypeId):Grown w (w.alloc (.cells cells ty)) cells ty (0,0):=
 ⟨nQ _ _,fun _ h=>eE h,iA _ _,rfl,rfl,rfl⟩
theorem Grown.drew(w:World)(cells:Array Value)(ty:TypeId):Grown w (w.drew.alloc (.cells cells ty)) cells ty (0,0):=
 ⟨nQ _ _,fun _ h=>eE (w:=w.drew) h,iA w.drew _,rfl,rfl,rfl⟩
def Env.newArr(E:Env)(f:Own->Option Own)(l:Own)(m:Nat)(w' :World):Env:=
 { w:=w',hw:=fun b=>if b=E.w.heap.size then m else E.hw b,ow:=fun b=>if b=E.w.heap.size then some l else(E.ow b).bind f,bx:=E.bx,hdr:=E.hdr }
theorem mH{C:Ctx}{G:Nat->AV}{tmps:Array Value}{E:Env}(hi:Inv C G tmps E){w' :World}{cells:Array Value}{ty:TypeId}{fr:Nat×Nat}(hg:Grown E.w w' cells ty fr)
 {f:Own->Option Own} {dk:Pl->Nat->Prop} (hf:RhoOk f dk) (hdk:∀k c,¬dk (.k k) c) {i c:Nat} {p:List (Nat×Nat)} (hl:∀l',f l' ≠some (.arr (.h i) c p)) (m:Nat):
 Step E (E.newArr f (.arr (.h i) c p) m w') dk (fun _=>False) False/\Inv C G tmps (E.newArr f (.arr (.h i) c p) m w'):=by
 have hn:=hi.new E.w.heap.size (Zn _)
 have st:Step E (E.newArr f (.arr (.h i) c p) m w') dk (fun _=>False) False:= {
  ro:=fun b hb=>by
   by_cases e:b=E.w.heap.size
   ·grind
   ·exact⟨fun _=>by grind [Env.newArr],fun o ho=>⟨bD (hg.old b e) o,by grind [Env.newArr]⟩⟩
  own:=fun b k c p hb hk=>by
   have e:b≠E.w.heap.size:=by grind
   exact⟨by simp [Env.newArr,e,hb,hf.id k c p hk],by grind [Env.newArr],hg.old b e⟩
  bor:=fun _ b o ho=>by
   have e:b≠E.w.heap.size:=by grind
   exact⟨bD (hg.old b e) o,by grind [Env.newArr]⟩
  box:=fun s hs hd=>by
   have e:E.bx s≠E.w.heap.size:=by grind
   exact⟨rfl,by simp [Env.newArr,e,hs,hf.box],hg.old _ e⟩
  hdr:=rfl }
 refine⟨st,hi.step st hg.os hg.tape hg.output (by show _<=w'.heap.size;rw [hg.size];omega) (fun b hlt h0=> ?_) (fun b hlt=> ?_) (fun b b' l g1 g2=> ?_) (fun b s h=> ?_) rfl (fun s hs=>⟨hs,rfl⟩)
  (fun t=> .inr ⟨AWk.refl hdk _ _,rfl⟩) (fun s cs hs=> .inr ⟨id,cs,hs,CWs.refl hdk _ _ _⟩)⟩
 ·have hsz:=hi.size;have e:b≠E.w.heap.size:=by omega
  exact⟨hg.old b e,by grind [Env.newArr],by simp [Env.newArr,e,(hi.old b hlt h0).2.2]⟩
 ·have hlt:w'.heap.size<=b:=hlt;rw [hg.size] at hlt;have e:b≠E.w.heap.size:=by omega
  have:=hi.new b (by omega)
  grind [Env.newArr]
 ·simp only [Env.newArr] at g1 g2;split at g1 <;>split at g2
  ·grind
  ·grind [Option.bind_eq_some_iff]
  ·grind [Option.bind_eq_some_iff]
  ·simp only [Zq] at g1 g2;obtain⟨l1,a1,c1⟩:=g1;obtain⟨l2,a2,c2⟩:=g2;have:=hf.inj _ _ _ c1 c2;subst this;exact hi.inj _ _ _ a1 a2
 ·simp only [Env.newArr] at h ⊢;split at h
  ·cases h
  ·rename_i e;rw [Za e];simp only [Zq] at h;obtain⟨l,a1,c1⟩:=h;cases l with
   |box s2=>rw [hf.box] at c1;cases c1;exact hi.boxhw b _ a1
   |arr k c p=>exact absurd c1 (hf.arr k c p s)
def Env.growArr(E:Env)(f:Own->Option Own)(b o m:Nat)(vs:List Value):Env:=
 { w:=E.w.setCells b o vs,hw:=fun k=>if k=b then m else E.hw k,ow:=fun k=>(E.ow k).bind f,bx:=E.bx,hdr:=E.hdr }
theorem vW{C:Ctx}{G:Nat->AV}{tmps:Array Value}{E:Env}(hi:Inv C G tmps E){f:Own->Option Own}{dk:Pl->Nat->Prop}(hf:RhoOk f dk)(hdk:∀k c,¬dk (.k k) c)
 {i c b o m:Nat} {p:List (Nat×Nat)} (hb:E.ow b=some (.arr (.h i) c p)) (hd:dk (.h i) c) {cells:Array Value} {ty:TypeId} {fr:Nat×Nat} (hh:E.w.heap[b]? =some (.cells cells ty fr))
 {vs:List Value} (ho:E.hw b<=o) (hm:E.hw b<=m):
 Step E (E.growArr f b o m vs) dk (fun _=>False) False/\Inv C G tmps (E.growArr f b o m vs):=by
 have same:∀k,k≠b->(E.w.setCells b o vs).heap[k]? =E.w.heap[k]? :=fun k h=>d8 b k h vs o E.w;have below:∀q,q<E.hw b->(E.w.setCells b o vs).cell? ⟨b,q,none⟩=E.w.cell? ⟨b,q,none⟩:=by
  intro q hq;obtain⟨cs',h1,h2,h3⟩:=dQ b vs o E.w hh
  grind [World.cell?]
 have st:Step E (E.growArr f b o m vs) dk (fun _=>False) False:= {
  ro:=fun k hk=>by
   have e:k≠b:=by grind
   exact⟨fun _=>by grind [Env.growArr],fun q hq=>⟨bD (same k e) q,by grind [Env.growArr]⟩⟩
  own:=fun k l c' p' hk hn=>by
   have e:k≠b:=by grind
   exact⟨by simp [Env.growArr,hk,hf.id _ _ _ hn],by grind [Env.growArr],same k e⟩
  bor:=fun _ k q hq=>by
   grind [Env.growArr,bD]
  box:=fun s hs _=>by
   have e:E.bx s≠b:=by grind
   exact⟨rfl,by simp [Env.growArr,hs,hf.box],same _ e⟩
  hdr:=rfl }
 obtain⟨o1,o2,o3⟩:=dR b vs o E.w
 refine⟨st,hi.step st o1 o2 o3 (by show _<=(E.w.setCells b o vs).heap.size;grind [dM]) (fun k hlt h0=> ?_) (fun k hlt=> ?_) (fun b1 b2 l g1 g2=> ?_) (fun k s h=> ?_) rfl (fun s hs=>⟨hs,rfl⟩)
  (fun t=> .inr ⟨AWk.refl hdk _ _,rfl⟩) (fun s cs hs=> .inr ⟨id,cs,hs,CWs.refl hdk _ _ _⟩)⟩
 ·have h2:=(hi.old k hlt h0).2.2;have e:k≠b:=by grind
  grind [Env.growArr]
 ·have hlt:(E.w.setCells b o vs).heap.size<=k:=hlt;rw [dM] at hlt;have:=hi.new k hlt;have e:k≠b:=by grind
  grind [Env.growArr]
 ·simp only [Env.growArr,Zq] at g1 g2;obtain⟨l1,a1,c1⟩:=g1;obtain⟨l2,a2,c2⟩:=g2;have:=hf.inj _ _ _ c1 c2;subst this;exact hi.inj _ _ _ a1 a2
 ·simp only [Env.growArr,Zq] at h ⊢;obtain⟨l,a1,c1⟩:=h;cases l with
  |box s2=>
   rw [hf.box] at c1;cases c1;have e:k≠b:=by grind
   rw [Za e];exact hi.boxhw k _ a1
  |arr k c p=>exact absurd c1 (hf.arr k c p s)
theorem eP{w:World}{ok:List (Nat×Nat)->Nat->Nat->Prop}{q:List (Nat×Nat)->Value->Nat->Prop}{b n cap sz:Nat}{rows:List (List D)}{cs:Array Value}{ty:TypeId}{fr:Nat×Nat}
 (hh:w.heap[b]? =some (.cells cs ty fr)) (hn:rows.length=n) (hcap:n<=cap) (hr:∀r∈rows,r.length=sz) (hq:q [] (.slice (some ⟨b,0,none⟩) n cap) sz)
 (hok:∀o,o<n*sz->ok [] b o)
 (hk:∀i j (hi:i<rows.length) (hj:j<rows[i].length),∃u,cs[i*sz+j]? =some u/\RdP w (fun p=>ok ((i,j)::p)) (fun p=>q ((i,j)::p)) u (rows[i][j])):
 RdP w ok q (.slice (some ⟨b,0,none⟩) n cap) (.sl sz rows):=by
 refine .sl b 0 n cap sz rows (fun i j=>(cs[i*sz+j]?).getD undef) hn hcap hr hq (fun i j hi hj=> ?_) (fun i j hi hj=> ?_)
 ·have hi' :i<rows.length:=by omega
  obtain⟨u,h1,h2⟩:=hk i j hi' (by grind);refine⟨?_,hok _ ?_⟩
  ·grind [World.cell?]
  ·rw [Zc]
   calc i*sz+j<i*sz+sz:=by omega
    _=(i+1)*sz:=by grind
    _<=n*sz:=Z1 _ hi
 grind
def D.flat:D->Bool
 | .sl _ _=>false
 |_=>true
theorem RdP.flat{w w' :World}{ok ok' :List (Nat×Nat)->Nat->Nat->Prop}{q q' :List (Nat×Nat)->Value->Nat->Prop}{v:Value}{d:D}(hd:d.flat=true)(h:RdP w ok q v d):RdP w' ok' q' v d:=by
 cases h with
 |int k n=>grind [int]
 |bool b=>grind [bool]
 |str s=>grind [str]
 |nil=>cases hd
 |sl=>cases hd
theorem Ty.flat_toD{T:Ty}(h:T.flat=true)(x:T.den):∀d∈T.toD x,d.flat=true:=by
 cases T <;>first |(simp [Ty.flat] at h;done) |(intro d hd;simp [Ty.toD] at hd;first |(subst hd;rfl) |(rcases hd with rfl|rfl <;>rfl) |(rcases hd with rfl|rfl|rfl|rfl <;>rfl) |(rcases hd with rfl|rfl|rfl|rfl|rfl|rfl <;>rfl))
section
variable {C:Ctx} {σ:St} {a:Act} {E:Env} {u u' u'' :Ups} {tt:TT} {o:Oper} {md:Md} {v:AV} {ob:List Prop} {ty:TypeId}
theorem s8{w:World}(htt:aP C.P tt)(hi:Inv C (St.get (u++σ)) a.tmps E)(hw:E.w=w){t:TypeId}{ps:Array (Nat×Operand)}(ho:o.op= .build t ps){i:TI}(hti:tt.get t=some i)
 {z:List CV} (hz:i.zero=some z) (hagg:i.agg=true) {cs:List CV}
 (h:Mr (fD tt 0 (fun f=>match i.offs[f]?,i.fsz[f]? with |some p,some n=>some (p,n) |_,_=>none) ps.toList z) σ u=some (cs,u')):
 Good C (u' ++σ) a w o (.v true cs):=by
 have hk:=htt t i hti;obtain⟨ti,d,h1,h2,h3,h4,h5,h6⟩:=hk.info;obtain⟨zv,hz1,hz2⟩:=h6 z hz;obtain⟨fs,places,hu,hpl,hmap⟩:=hk.built z hz hagg;have hv:VRs E (aA (St.get (u++σ))) (.h 0) 0 z zv.cells.toList:=kT _ _ _ _ hz2;have hns:∀y∈z,∀k c,¬y.speaks k c:=by
  have key:∀ {z:List CV} {vs:List Value},bM z vs=true->∀y∈z,∀k c,¬y.speaks k c:=by
   intro z
   induction z with
   |nil=>grind
   |cons x xs ih=>
    intro vs h y hy k c hs;cases vs with
    |nil=>grind [bM]
    |cons v vs=>
     simp [bM] at h;cases hy with
     |tail _ hy=>exact ih h.2 y hy k c hs
     |head=>
      have h1:=h.1;unfold gL at h1;split at h1 <;>first |exact hs|grind
  grind
 obtain⟨E',vals,k1,k2,k3,k4,k5⟩:=qH 0 (place' :=fun f=>places.toArray[f]?) (fun f p n hp=>by
  grind) ps.toList z u u' cs zv.cells E hi hv hns h
 refine⟨.agg vals,w,?_,E',k2.trans hw,k3,vals,rfl,k4⟩;rw [uI ho];have hb:C.P.built t (ps.map fun x=>(x.1,a.eval x.2)).toList=some vals:=by
  grind [Program.built,Array.toList_map]
 rw [run_build w t _ vals hb]
 rfl
def cJ(kp nest:Bool)(n:Nat)(src:Nat->List (Nat×Nat)->Option (List (Nat×Nat))):Own->Option Own
 | .arr (.h 0) c p=>match p with
   | []=>if kp=true/\c=0 then some (.arr (.h 0) c []) else none
   |x::r=>if nest=true/\c=0/\x.1<n then some (.arr (.h 0) c (x::r)) else none
 | .arr (.h 1) c p=>if nest=true then(src c p).map (.arr (.h 0) 0 ·) else none
 |l=>some l
def dkA:Pl->Nat->Prop:=fun pl _=>pl= .h 0\/pl= .h 1
theorem jQ(k c:Nat):¬dkA (.k k) c:=by rintro (h|h) <;>cases h
structure SrcOk (n:Nat) (src:Nat->List (Nat×Nat)->Option (List (Nat×Nat))):Prop where
 inj:∀c p c' p' q,src c p=some q->src c' p' =some q->c=c' /\p=p'
 new:∀c p q,src c p=some q->∃x r,q=x::r/\n<=x.1
theorem iZ{kp nest:Bool}{n:Nat}{src:Nat->List (Nat×Nat)->Option (List (Nat×Nat))}{l1 l:Own}(h:cJ kp nest n src l1=some l):
 ((∀c p,l1≠ .arr (.h 0) c p)/\(∀c p,l1≠ .arr (.h 1) c p)/\l=l1)\/(l1= .arr (.h 0) 0 []/\kp=true/\l=l1)\/(∃x r,l1= .arr (.h 0) 0 (x::r)/\x.1<n/\l=l1)\/
   (∃c p q,l1= .arr (.h 1) c p/\src c p=some q/\l= .arr (.h 0) 0 q):=by
 unfold cJ at h
 grind [Option.map_eq_some_iff]
theorem i6{kp nest:Bool}{n:Nat}{src:Nat->List (Nat×Nat)->Option (List (Nat×Nat))}(hs:SrcOk n src):RhoOk (cJ kp nest n src) dkA where
 box:=fun _=>rfl
 id:=fun k c p h=>by
  unfold dkA at h;cases k with
  |k m=>rfl
  |h m=>
   match m,h with
   |0,h=>grind
   |1,h=>grind
   |_+2,_=>rfl
 inj:=fun l1 l2 l h1 h2=>by
  rcases iZ h1 with ⟨a1,a2,rfl⟩|⟨rfl,_,rfl⟩|⟨x,r,rfl,hx,rfl⟩|⟨c,p,q,rfl,hq,rfl⟩ <;>
   rcases iZ h2 with ⟨b1,b2,e⟩|⟨e1,_,e⟩|⟨y,s,e1,hy,e⟩|⟨c',p',q',e1,hq',e⟩
  ·exact e
  ·exact e
  ·exact e
  ·grind
  ·exact e
  ·exact e
  ·exact e
  ·obtain⟨x,r,rfl,_⟩:=hs.new _ _ _ hq';cases e
  ·exact e
  ·exact e
  ·exact e
  ·obtain⟨x',r',rfl,hx'⟩:=hs.new _ _ _ hq';grind
  ·grind
  ·subst e1;cases e;obtain⟨x',r',h3,hx'⟩:=hs.new _ _ _ hq;grind
  ·subst e1;cases e;obtain⟨x',r',h3,hx'⟩:=hs.new _ _ _ hq;grind
  ·subst e1;cases e;obtain⟨rfl,rfl⟩:=hs.inj _ _ _ _ _ hq hq';rfl
 arr:=fun k c p s h=>by
  grind [iZ]
theorem lD{nest:Bool}{n:Nat}{src:Nat->List (Nat×Nat)->Option (List (Nat×Nat))}(hs:SrcOk n src)(l' :Own):cJ false nest n src l' ≠some (.arr (.h 0) 0 []):=by
 intro h;rcases iZ h with ⟨a1,a2,e⟩|⟨_,e,_⟩|⟨_,_,e1,_,e⟩|⟨_,_,q,_,hq,e⟩
 ·grind
 ·cases e
 ·grind
 ·obtain⟨x,r,rfl,_⟩:=hs.new _ _ _ hq;cases e
def fK(E E' :Env)(l l' :Own):Prop:=∀b,E.ow b=some l->E'.ow b=some l' /\E'.hw b=E.hw b/\E'.w.heap[b]? =E.w.heap[b]?
theorem Tip.moves{E E' :Env}{l l' :Own}(hm:fK E E' l l'){v:Value}{sz:Nat}(h:Tip E l v sz):Tip E' l' v sz:=by
 unfold Tip at h ⊢;split at h
 ·obtain⟨h1,h2,h3,cs,ty,lo,hi,h4,h5⟩:=h;obtain⟨a,b,d⟩:=hm _ h1
  grind
 all_goals grind
theorem fE{E E' :Env}{k k' :Pl}{c c' :Nat}{p0:List (Nat×Nat)}{g:List (Nat×Nat)->List (Nat×Nat)}{v:Value}{d:D}
 (hm:∀p,fK E E' (.arr k c (p0++p)) (.arr k' c' (g p))) (h:RdP E.w (fun p=>okF E k c .own (p0++p)) (fun p=>qF E k c .own (p0++p)) v d):
 RdP E'.w (fun p=>okF E' k' c' .own (g p)) (fun p=>qF E' k' c' .own (g p)) v d:=
 h.mono (fun p b o ho=>by obtain⟨a1,a2,a3⟩:=hm p b ho.2;exact⟨bD a3 o,by rw [a2];exact ho.1,a1⟩) (fun p v sz ht=>Tip.moves (hm p) ht)
theorem mS{E E' :Env}{k k' :Pl}{c c' :Nat}{p0:List (Nat×Nat)}{fl:Fl}(hfl:fl= .own\/fl= .tip\/fl= .ro){x:Nat×Nat}{q:List (Nat×Nat)->Value->Nat->Prop}{v:Value}{d:D}
 (hz:∀b o,o<E.hw b->(E.ow b=none\/∃p,E.ow b=some (.arr k c (p0++p)))->E'.w.cell? ⟨b,o,none⟩=E.w.cell? ⟨b,o,none⟩/\o<E'.hw b/\E'.ow b=none)
 (h:RdP E.w (fun p=>okF E k c fl (p0++p)) q v d):RdP E'.w (fun p=>okF E' k' c' .tip (x::p)) (fun p=>qF E' k' c' .tip (x::p)) v d:=by
 refine h.mono (fun p b o ho=> ?_) (fun p v sz _ hp=>by grind);have:o<E.hw b/\(E.ow b=none\/∃p,E.ow b=some (.arr k c (p0++p))):=by
  rcases hfl with rfl|rfl|rfl
  ·exact⟨ho.1,.inr ⟨p,ho.2⟩⟩
  ·refine⟨ho.1,?_⟩;by_cases e:p0++p=[]
   ·exact .inr ⟨p,ho.2.1 e⟩
   ·exact .inl (ho.2.2 e)
  ·exact⟨ho.1,.inl ho.2⟩
 obtain⟨a1,a2,a3⟩:=hz b o this.1 this.2;exact⟨a1,⟨a2,⟨(fun hp=>absurd hp (List.cons_ne_nil _ _)),fun _=>a3⟩⟩⟩
def CV.fits(own:Bool):CV->Bool
 | .int _ _=>true
 | .bool _=>true
 | .str _=>true
 | .sl .own _ _=>true
 | .sl .ro _ _=> !own
 | .sl .tip _ _=> !own
 |_=>false
theorem CV.fits_weak{y:CV}{b b' :Bool}(hb:b' =true->b=true)(hy:y.fits b=true):y.fits b' =true:=by
 cases y with
 |sl g T xs=>cases g <;>cases b <;>cases b' <;>simp [CV.fits] at hb hy ⊢
 |_=>simp [CV.fits] at hy ⊢
theorem pY{cs:List CV}:∀ {f:Fl},dH cs=some f->(f= .own\/f= .ro)/\∀y∈cs,y.fits (decide (f= .own))=true:=by
 induction cs with
 |nil=>intro f h;cases h;grind
 |cons x xs ih=>
  intro f h;have keep:∀ {f:Fl},dH xs=some f->(∀b,x.fits b=true)->(f= .own\/f= .ro)/\∀y∈x::xs,y.fits (decide (f= .own))=true:=by
   grind
  have turn:((dH xs).map fun _=>Fl.ro)=some f->x.fits false=true->(f= .own\/f= .ro)/\∀y∈x::xs,y.fits (decide (f= .own))=true:=by
   intro h hx;simp only [Zi] at h;obtain⟨g,h1,h2⟩:=h;subst h2;obtain⟨_,h2⟩:=ih h1;refine⟨.inr rfl,fun y hy=> ?_⟩;rcases Zh.1 hy with rfl|hy
   ·grind
   ·have:=h2 y hy;cases y with
    |sl g T xs=>cases g <;>simp_all [CV.fits]
    |_=>simp_all [CV.fits]
  cases x with
  |int k n=>exact keep h fun _=>rfl
  |bool b=>exact keep h fun _=>rfl
  |str t=>exact keep h fun _=>rfl
  |sl g T ys=>
   cases g with
   |own=>exact keep h fun _=>rfl
   |ro=>exact turn h rfl
   |tip=>exact turn h rfl
   |_=>cases h
  |_=>cases h
theorem qU{T:Ty}:∀ {n:Nat} {cs:List CV} {xs:List T.den} {f:Fl},eO T n cs=some (xs,f)->
 cs.length=n*T.sz/\xs.length=n/\(f= .own\/f= .ro)/\∀i j (hi:i<xs.length) (hj:j<(T.toD xs[i]).length),∃y,cs[i*T.sz+j]? =some y/\y.toD=(T.toD xs[i])[j]/\y.fits (decide (f= .own))=true:=by
 intro n
 induction n with
 |zero=>
  intro cs xs f h;cases cs with
  |nil=>cases h;grind
  |cons=>cases h
 |succ n ih=>
  intro cs xs f h;unfold eO at h;split at h
  ·rename_i x g ys f' h1 h2 h3;cases h;obtain⟨a1,a2,a3,a4⟩:=ih h3;obtain⟨b1,b2⟩:=pY h2;have htd:=Ty.dec_toD T _ x h1;have htl:(cs.take T.sz).length=T.sz:=by grind [Ty.toD_length]
   have hle:T.sz<=cs.length:=by grind
   have hl:cs.length=(n+1)*T.sz:=by
    grind
   refine⟨hl,by grind,?_,fun i j hi hj=> ?_⟩
   ·grind
   ·cases i with
    |zero=>
     have hj' :j<(cs.take T.sz).length:=by grind
     refine⟨(cs.take T.sz)[j],?_,?_,?_⟩
     all_goals grind [CV.fits_weak,List.getElem_mem]
    |succ i=>
     obtain⟨y,c1,c2,c3⟩:=a4 i j (by grind) hj
     grind [CV.fits_weak]
  grind
theorem tL{E E' :Env}{bxs:Nat->Prop}{c i j:Nat}{own:Bool}{y:CV}{v:Value}(hy:y.fits own=true)(hv:VRc E bxs (.h 1) c y v)
 (hm:own=true->∀p,fK E E' (.arr (.h 1) c p) (.arr (.h 0) 0 ((i,j)::p)))
 (hz:own=false->∀b o,o<E.hw b->(E.ow b=none\/∃p,E.ow b=some (.arr (.h 1) c p))->E'.w.cell? ⟨b,o,none⟩=E.w.cell? ⟨b,o,none⟩/\o<E'.hw b/\E'.ow b=none):
 RdP E'.w (fun p=>okF E' (.h 0) 0 (if own then .own else .tip) ((i,j)::p)) (fun p=>qF E' (.h 0) 0 (if own then .own else .tip) ((i,j)::p)) v y.toD:=by
 cases y with
 |int k n=>obtain rfl:v=_:=hv;exact .int k n
 |bool b=>obtain rfl:v=_:=hv;exact .bool b
 |str t=>obtain⟨s,rfl,rfl⟩:=hv;exact .str s
 |sl g T xs=>
  cases own with
  |true=>
   cases g <;>first |(simp [CV.fits] at hy;done) |skip
   exact fE (p0:=[]) (fun p=>hm rfl p) hv
  |false=>
   have hg:g= .own\/g= .tip\/g= .ro:=by cases g <;>simp [CV.fits] at hy ⊢
   exact mS (p0:=[]) hg (hz rfl) hv
 |_=>grind [CV.fits]
theorem oY{α:Type}(l:List α):∀(n j:Nat),j<n*l.length->(List.replicate n l).flatten[j]? =l[j % l.length]?
 |0,j,h=>by grind
 |n+1,j,h=>by
  rw [List.replicate_succ,List.flatten_cons];by_cases hj:j<l.length
  ·grind [Nat.mod_eq_of_lt]
  ·rw [ZS (by omega),oY l n (j - l.length) (by grind),Nat.mod_eq_sub_mod (by omega:j>=l.length)]
theorem rO{E:Env}{bxs:Nat->Prop}{pl:Pl}{l:List CV}{z:Array Value}(hz:bM l z.toList=true)(n:Nat):
 VRs E bxs pl 0 (List.replicate n l).flatten ((Array.range (n*l.length)).map (z[· % z.size]!)).toList:=by
 have hl:=kS hz;have hl:z.size=l.length:=by grind
 have hv:=kT E bxs pl 0 hz;refine cH (by simp) fun j x v h1 h2=> ?_;have hj:j<n*l.length:=by
  grind
 rw [oY l n j hj] at h1;simp only [Array.toList_map,Array.toList_range,Ze,List.getElem?_range hj,Option.map_some,ZK] at h2;have hp:0<l.length:=by
  grind
 have hm:j % l.length<z.toList.length:=by grind
 have h3:=bH hv h1 (Zv hm);have e:z.toList[j % l.length]=v:=by
  grind
 rw [e] at h3;have:∀y∈l,y.owning=false\/∃T,y= .sl .own T []:=by
  have key:∀ {z:List CV} {vs:List Value},bM z vs=true->∀y∈z,y.owning=false\/∃T,y= .sl .own T []:=by
   intro z
   induction z with
   |nil=>grind
   |cons x xs ih=>
    intro vs h y hy;cases vs with
    |nil=>grind [bM]
    |cons v vs=>
     simp [bM] at h;cases hy with
     |tail _ hy=>exact ih h.2 y hy
     |head=>
      have h1:=h.1;unfold gL at h1;split at h1 <;>first |exact .inl rfl|grind|grind
  grind
 rcases this x (Zy h1) with h|⟨T,rfl⟩
 ·grind [VRc.any]
 ·have h4:=kT E bxs pl (j - j % l.length) hz;have h5:=bH h4 h1 (Zv hm);rw [e,Nat.sub_add_cancel (Nat.mod_le _ _)] at h5
  grind
def gH(sz:Nat)(c:Nat)(p:List (Nat×Nat)):Option (List (Nat×Nat)):=if 0<sz then some ((c / sz,c % sz)::p) else none
theorem yZ(sz:Nat):SrcOk 0 (gH sz) where
 inj:=fun c p c' p' q h1 h2=>by
  grind [gH,Nat.div_add_mod]
 new:=fun c p q h=>by
  grind [gH]
theorem mK{w w' :World}(hi:Inv C (St.get (u++σ)) a.tmps E)(hw:E.w=w){T:Ty}{n cap:Nat}{cs:List CV}{xs:List T.den}{f:Fl}(hr:eO T n cs=some (xs,f))
 {cells:Array Value} {e:TypeId} {fr:Nat×Nat} (hg:Grown w w' cells e fr) {vals:List Value} (hv:VRs E (aA (St.get (u++σ))) (.h 1) 0 cs vals) (hvals:∀j,j<vals.length->cells[j]? =vals[j]?)
 (hcap:n<=cap) (hsz:cap*T.sz=cells.size) (hfr:∀o,fr.1<=o->o<fr.2->cap*T.sz<=o):
 Hand C (u++σ) a.tmps w' 0 (.v false [.sl (if f= .own then .own else .tip) T xs]) (.slice (some ⟨w.heap.size,0,none⟩) n cap):=by
 subst hw;obtain⟨r1,r2,r3,r4⟩:=qU hr;have hsrc:=yZ T.sz;have hflag:(if f= .own then Fl.own else Fl.tip)=(if decide (f= .own)=true then Fl.own else Fl.tip):=by simp
 rw [hflag];generalize decide (f= .own)=nest at*;obtain⟨st,hi'⟩:=mH hi hg (i6 (kp:=false) (nest:=nest) hsrc) jQ (lD hsrc) (n*T.sz);have hn:=hi.new E.w.heap.size (Zn _);refine⟨_,rfl,hi',?_,trivial⟩;generalize hE:E.newArr (cJ false nest 0 (gH T.sz)) (.arr (.h 0) 0 []) (n*T.sz) w' =E';have how:E'.ow E.w.heap.size=some (.arr (.h 0) 0 [])/\E'.hw E.w.heap.size=n*T.sz:=by grind [Env.newArr]
 have hE'w:E'.w=w' :=by rw [<-hE];rfl
 have old:∀b,b≠E.w.heap.size->E'.ow b=(E.ow b).bind (cJ false nest 0 (gH T.sz))/\E'.hw b=E.hw b/\E'.w.heap[b]? =E.w.heap[b]? :=by
  intro b hb;rw [<-hE];exact⟨by grind [Env.newArr],by grind [Env.newArr],hg.old b hb⟩
 have hlen:∀r∈xs.map T.toD,r.length=T.sz:=by
  grind [Ty.toD_length]
 have hTip:Tip E' (.arr (.h 0) 0 []) (.slice (some ⟨E.w.heap.size,0,none⟩) n cap) T.sz:=
  ⟨how.1,how.2,hcap,cells,e,fr.1,fr.2,by rw [hE'w];exact hg.new,hsz,hfr⟩
 show RdP E'.w _ _ _ (.sl T.sz (xs.map T.toD));refine eP (by rw [hE'w];exact hg.new) (by grind) hcap hlen ?_ (fun o ho=> ?_) (fun i j hi hj=> ?_)
 ·cases nest with
  |true=>exact hTip
  |false=>exact fun _=>hTip
 ·have hh:o<E'.hw E.w.heap.size:=by grind
  cases nest with
  |true=>exact⟨hh,how.1⟩
  |false=>exact⟨hh,fun _=>how.1,fun h=>absurd rfl h⟩
 ·have hi2:i<xs.length:=by grind
  have hj2:j<(T.toD xs[i]).length:=by grind
  obtain⟨y,y1,y2,y3⟩:=r4 i j hi2 hj2;have hjs:j<T.sz:=by grind
  have hlt:i*T.sz+j<vals.length:=by grind [bB]
  have hvc:=bH hv y1 (Zv hlt);refine⟨vals[i*T.sz+j],by grind,?_⟩;have hz:=Ty.sz_pos T;have hdiv:(0+(i*T.sz+j)) / T.sz=i:=by
   grind [Nat.add_mul_div_right,Nat.div_eq_of_lt]
  have hmod:(0+(i*T.sz+j)) % T.sz=j:=by
   grind [Nat.add_mul_mod_self_right,Nat.mod_eq_of_lt]
  have key:=tL (E' :=E') (i:=i) (j:=j) y3 hvc (fun ho p b hb=> ?_) (fun ho b o h1 h2=> ?_)
  ·grind
  ·have hbn:b≠E.w.heap.size:=by grind
   grind [cJ,gH]
  ·have hbn:b≠E.w.heap.size:=by grind
   grind [bD,cJ]
theorem s7{w:World}(htt:aP C.P tt)(hi:Inv C (St.get (u++σ)) a.tmps E)(hw:E.w=w){t:TypeId}{n:Nat}{ps:Array (Nat×Operand)}(ho:o.op= .buildSlice t n ps){i:TI}(hti:tt.get t=some i)
 {e:TypeId} {T:Ty} (he:i.elem=some (e,T)) (hn:n<=1000) {cs:List CV}
 (h:Mr (fD tt e (fun k=>some (k*T.sz,T.sz)) ps.toList (List.replicate n (T.enc .own T.dflt)).flatten) σ u=some (cs,u')) {xs:List T.den} {f:Fl} (hr:eO T n cs=some (xs,f)):
 Good C (u' ++σ) a w o (.v false [.sl (if f= .own then .own else .tip) T xs]):=by
 have hk:=htt t i hti;obtain⟨hu,te,zv,h1,h2,h3,h4,h5,h6⟩:=hk.elem e T he;have hencl:=Ty.enc_length .own T T.dflt;have hv0:=rO (E:=E) (bxs:=aA (St.get (u++σ))) (pl:= .h 1) h6 n;rw [hencl] at hv0;have hns:∀y∈(List.replicate n (T.enc .own T.dflt)).flatten,∀k c,¬y.speaks k c:=by
  intro y hy k c hs;obtain⟨l,hl,hy⟩:=List.mem_flatten.1 hy;rw [List.eq_of_mem_replicate hl] at hy;rcases fQ _ _ _ _ hy with ⟨_,_,rfl⟩|⟨_,rfl⟩|⟨_,_,rfl⟩ <;>exact hs
 obtain⟨E1,vals,k1,k2,k3,k4,k5⟩:=qH 1 (place' :=fun k=>some (k*te.size,te.size)) (fun k p m hp=>by grind) ps.toList _ u u' cs _ E hi hv0 hns h;have hg:=Grown.alloc w vals e;obtain⟨r1,r2,r3,r4⟩:=qU hr;have hvl:vals.size=n*T.sz:=by rw [<-r1,bB k4];simp
 have hand:=mK (a:=a) k3 (k2.trans hw) hr hg k4 (fun j _=>by simp) (Zn n) (hvl.symm) (fun o _ h=>absurd h (Ya o));refine⟨_,_,?_,hand⟩;rw [uJ ho];have hsz:=Ty.sz_pos T;have hs11:T.sz<=11:=by cases T <;>decide
 have hsmall:¬(n*te.size>2 ^ 24):=by
  rw [h2];have:n*T.sz<=1000*11:=Yh hn hs11;omega
 have hzl:zv.cells.size=T.sz:=by
  have:=kS h6
  grind
 by_cases h0:n*te.size=0
 ·have:n=0:=by
   grind [Nat.mul_eq_zero]
  subst this;have e1:((Array.range (0*T.sz)).map (zv.cells[· % zv.cells.size]!))=(Array.range (0*te.size)).map ((#[]:Array Value)[· % (#[]:Array Value).size]!):=by simp
  rw [e1] at k1;have k1' :Instr.fill (fun k=>some (k*te.size,te.size)) ((Array.range (0*te.size)).map ((#[]:Array Value)[· % (#[]:Array Value).size]!)) (ps.map fun x=>(x.1,a.eval x.2)).toList=some vals:=by
   simp_all
  simp only [Nat.zero_mul] at k1';simp [Instr.buildSlice,run_underlying hu,sizeOf,typeInfo,h1,newRow,bJ]
  simp_all
 ·have k1' :Instr.fill (fun k=>some (k*te.size,te.size)) ((Array.range (n*te.size)).map (zv.cells[· % zv.cells.size]!)) (ps.map fun x=>(x.1,a.eval x.2)).toList=some vals:=by
   simp_all
  rw [run_buildSlice w t e n _ vals te zv hu h1 h5 hsmall h0 k1']
  rfl
end
theorem Ty.dec_enc(f:Fl)(T:Ty)(x:T.den):T.dec (T.enc f x)=some x:=by
 cases T with
 |val=>cases x;rfl
 |exp=>cases x;rfl
 |rea=>obtain⟨a,b,c,d,v⟩:=x;cases v;rfl
 |bnd=>obtain⟨a,v⟩:=x;cases v;rfl
 |_=>rfl
theorem xG(T:Ty)(x:T.den):dH (T.enc .own x)=some .own:=by cases T <;>rfl
theorem mT(T:Ty):∀(xs:List T.den),eO T xs.length (xs.map (T.enc .own)).flatten=some (xs,.own)
 | []=>rfl
 |x::xs=>by
  have hl:=Ty.enc_length .own T x;simp only [jC,ZX,List.flatten_cons,eO];rw [<-hl,List.take_left,List.drop_left,Ty.dec_enc,xG,mT T xs];simp
section
variable {C:Ctx} {σ:St} {a:Act} {E:Env} {u u' u'' :Ups} {tt:TT} {o:Oper} {md:Md} {v:AV} {ob:List Prop} {ty:TypeId}
theorem wT{w:World}(htt:aP C.P tt)(hi:Inv C (St.get (u++σ)) a.tmps E)(hw:E.w=w){t:TypeId}{l c:Operand}(ho:o.op= .makeSlice t l c){i:TI}(hti:tt.get t=some i)
 {e:TypeId} {T:Ty} (he:i.elem=some (e,T)) {n m:Int} (hl:a.eval l= .int .i64 n) (hc:a.eval c= .int .i64 m) (hob:0<=n/\n=m/\n<=Lim):
 Good C (u++σ) a w o (.v false [.sl .own T (List.replicate n.toNat T.dflt)]):=by
 have hk:=htt t i hti;obtain⟨hu,te,zv,h1,h2,h3,h4,h5,h6⟩:=hk.elem e T he;obtain⟨h0,rfl,hL⟩:=hob;have hencl:=Ty.enc_length .own T T.dflt;have hv0:=rO (E:=E) (bxs:=aA (St.get (u++σ))) (pl:= .h 1) h6 n.toNat;rw [hencl] at hv0;have hr:=mT T (List.replicate n.toNat T.dflt);rw [List.length_replicate,List.map_replicate] at hr;have hg:=Grown.alloc w (madeCells zv.cells (n.toNat*te.size)) e;have hsz:=size_madeCells zv.cells (n.toNat*te.size);have hL' :n<=274877906944:=hL;have hand:=mK (a:=a) (cap:=n.toNat) hi hw hr hg hv0 (fun j _=>by grind [madeCells]) (Zn _) (by grind) (fun o _ h=>absurd h (Ya o));simp only [Ys] at hand;refine⟨_,_,?_,hand⟩;rw [uO ho,hl,hc];have hb:(te.bytes:Int)*n<=281474976710656:=by
  have h7:(te.bytes:Int)<=256:=by omega
  have:(te.bytes:Int)*n<=256*n:=Int.mul_le_mul_of_nonneg_right h7 h0;omega
 rw [run_make w t e te zv hu h1 h5 .i64 .i64 n n h0 (Int.le_refl _) hb (by omega)]
 rfl
theorem qM{w:World}{ok:List (Nat×Nat)->Nat->Nat->Prop}{q:List (Nat×Nat)->Value->Nat->Prop}{v:Value}{sz:Nat}{rows:List (List D)}(h:RdP w ok q v (.sl sz rows))(hz:0<sz):
 ∃(ad:Option Addr) (cap:Nat) (vals:List Value),v= .slice ad rows.length cap/\rows.length<=cap/\vals.length=rows.length*sz/\(rows=[]\/∃b off,ad=some ⟨b,off,none⟩/\∀j u,vals[j]? =some u->w.cell? ⟨b,off+j,none⟩=some u)/\
  (∀r∈rows,r.length=sz)/\(∀i j (hi:i<rows.length) (hj:j<rows[i].length),∃u,vals[i*sz+j]? =some u/\RdP w (fun p=>ok ((i,j)::p)) (fun p=>q ((i,j)::p)) u (rows[i][j])):=by
 cases h with
 |nil a cap sz hq=>simp_all
 |sl b off n cap sz rows u hn hcap hr hq hc hk=>
  subst hn;have idx:∀i j,i<rows.length->j<sz->i*sz+j<rows.length*sz:=by
   intro i j hi hj
   calc i*sz+j<i*sz+sz:=by omega
    _=(i+1)*sz:=by grind
    _<=rows.length*sz:=Z1 _ hi
  refine⟨some ⟨b,off,none⟩,cap,(List.range (rows.length*sz)).map fun k=>u (k / sz) (k % sz),rfl,hcap,by simp,.inr ⟨b,off,rfl,fun k y hy=> ?_⟩,hr,fun i j hi hj=> ?_⟩
  ·rw [Ze,Zi] at hy;obtain⟨k',hk',rfl⟩:=hy;obtain⟨hlt,e⟩:=Zs.1 hk';rw [List.getElem_range] at e;subst e;rw [List.length_range] at hlt
   grind [Nat.div_lt_of_lt_mul,Nat.mod_lt,Nat.div_add_mod]
  ·have hj' :j<sz:=by grind
   refine⟨u i j,?_,hk i j hi hj⟩;rw [Ze,List.getElem?_range (idx i j hi hj'),Option.map_some];have h1:(i*sz+j) / sz=i:=by grind [Nat.add_mul_div_right,Nat.div_eq_of_lt]
   grind [Nat.add_mul_mod_self_right,Nat.mod_eq_of_lt]
theorem vC(ns:List Int):∀(s:ByteArray),(ns.foldl (fun r n=>r.push (UInt8.ofNat n.toNat)) s).data.toList=s.data.toList++ns.map fun n=>UInt8.ofNat n.toNat:=by
 induction ns with
 |nil=>grind
 |cons n ns ih=>simp_all
theorem tV{w:World}(htt:aP C.P tt)(hi:Inv C (St.get (u++σ)) a.tmps E)(hw:E.w=w){s d:TypeId}{x:Operand}(ho:o.op= .convert s d x){i j:TI}(hti:tt.get s=some i)(htj:tt.get d=some j)
 {k k' :IntKind} {n:Int} (hk' :j.ik=some k') (hx:a.eval x= .int k n):Good C (u++σ) a w o (.v false [.int k' (k'.wrap n)]):=by
 refine Good.cell hi hw (val:= .int k' (k'.wrap n)) ?_ rfl;have hd:=(htt d j htj).ik k' hk';obtain⟨_,ds,_,_,hs,_⟩:=(htt s i hti).info;rw [lR ho,hx];simp only [convert,Sem.run_bind,run_underlying hs,run_underlying hd,Result.andThen_ok];cases ds <;>rfl
theorem tU{w:World}(htt:aP C.P tt)(hi:Inv C (St.get (u++σ)) a.tmps E)(hw:E.w=w){s d:TypeId}{x:Operand}(ho:o.op= .convert s d x){i j:TI}(hti:tt.get s=some i)(htj:tt.get d=some j)
 {f:Fl} {e:TypeId} {xs:List Int} (he:i.elem=some (e,.byte)) (hu8:C.P.underlying e=some (.int .u8)) (hj:j.isStr=true) (hx:VRc E (aA (St.get (u++σ))) (.h 0) 0 (.sl f .byte xs) (a.eval x)):
 Good C (u++σ) a w o (.v false [.str (xs.map fun n=>UInt8.ofNat n.toNat)]):=by
 have hd:=(htt d j htj).str hj;obtain⟨hs,_⟩:=(htt s i hti).elem e .byte he;obtain⟨ad,cap,vals,hv,h1,h2,h3,h4,h5⟩:=qM (v:=a.eval x) hx (show 0<Ty.byte.sz from Nat.one_pos);have hrl:(xs.map Ty.byte.toD).length=xs.length:=by simp
 rw [hrl] at hv h1 h2;have hvals:vals=xs.map (Value.int .u8):=by
  refine List.ext_getElem? fun k=> ?_;by_cases hk:k<xs.length
  ·obtain⟨u,g1,g2⟩:=h5 k 0 (by grind) (by simp [Ty.toD]);simp only [Ty.sz,Nat.mul_one,Nat.add_zero] at g1;rw [g1];simp [Ty.toD] at g2;cases g2
   grind
  grind [Ty.sz]
 refine Good.cell hi hw (val:= .string (xs.foldl (fun r n=>r.push (UInt8.ofNat n.toNat)) ByteArray.empty)) ?_ ⟨_,rfl,by rw [vC];simp⟩;rw [lR ho,hv];simp only [convert,Sem.run_bind,run_underlying hs,run_underlying hd,Result.andThen_ok,run_underlying hu8];rcases h3 with h3|⟨b,off,rfl,h3⟩
 ·have:xs=[]:=by grind
  subst this;cases ad with
  |none=>rfl
  |some ad=>
   have hl:(loadCells ad 0).run C.P w= .ok (([]:List Int).map (Value.int .u8)).toArray w:=by
    grind [run_loadCells_list]
   have:=run_bytesToString (P:=C.P) w ad 0 cap [] hl;rw [show([]:List Int).length=0 from rfl,this]
   rfl
 ·have hl:(loadCells ⟨b,off,none⟩ xs.length).run C.P w= .ok (xs.map (Value.int .u8)).toArray w:=by
   grind [run_loadCells_list,dU]
  rw [run_bytesToString (P:=C.P) w _ _ cap xs hl]
  rfl
theorem tW{w:World}(htt:aP C.P tt)(hi:Inv C (St.get (u++σ)) a.tmps E)(hw:E.w=w){s d:TypeId}{x:Operand}(ho:o.op= .convert s d x){i j:TI}(hti:tt.get s=some i)(htj:tt.get d=some j)
 {e:TypeId} {t:ByteArray} (he:j.elem=some (e,.byte)) (hu8:C.P.underlying e=some (.int .u8)) (hs:i.isStr=true) (hx:a.eval x= .string t):
 Good C (u++σ) a w o (.v false [.sl .own .byte (t.data.toList.map fun c=>(c.toNat:Int))]):=by
 have hs:=(htt s i hti).str hs;obtain⟨hd,_⟩:=(htt d j htj).elem e .byte he
 let cap:=grownCap w t.size 0 e
 have hcap:t.size<=cap:=grownCap_ge _ _ _ _
 let elems:Array Value:=t.data.map fun b=> .int .u8 b.toNat
 let cells:Array Value:=elems++Array.replicate (cap - t.size) (.int .u8 0)
 have hes:elems.size=t.size:=by simp only [elems,Array.size_map];rfl
 have hcs:cells.size=cap:=by grind
 have hnf:(Question.appendCap t.size 0 e).forced=false:=rfl
 let w' :World:=((w.drew.alloc (.cells cells e)).freeze ⟨w.heap.size,cells.size,none⟩ 1)
 have hg:Grown w w' cells e (cells.size,cells.size+1):=by
  have hh:(w.drew.alloc (.cells cells e)).heap[w.heap.size]? =some (.cells cells e (0,0)):=iA w.drew _;refine⟨?_,fun k hk=> ?_,?_,rfl,rfl,rfl⟩
  ·show(Array.modify _ _ _).size=_
   simp_all
  ·show(Array.modify _ _ _)[k]? =_;rw [Y6,Za (Yn hk)];exact eE (w:=w.drew) hk
  ·show(Array.modify _ _ _)[w.heap.size]? =_
   grind
 have hv:VRs E (aA (St.get (u++σ))) (.h 1) 0 ((t.data.toList.map fun c=>(c.toNat:Int)).map (Ty.byte.enc .own)).flatten elems.toList:=by
  have e1:∀(l:List UInt8) (c:Nat),VRs E (aA (St.get (u++σ))) (.h 1) c ((l.map fun c=>(c.toNat:Int)).map (Ty.byte.enc .own)).flatten (l.map fun b=>Value.int .u8 b.toNat):=by
   intro l
   induction l with
   |nil=>intro c;trivial
   |cons b l ih=>intro c;exact⟨rfl,ih _⟩
  have:=e1 t.data.toList 0;simpa [elems] using this
 have hr:=mT .byte (t.data.toList.map fun c=>(c.toNat:Int));have hlen:(t.data.toList.map fun c=>(c.toNat:Int)).length=t.size:=by grind
 rw [hlen] at hr
 have hand:=mK (a:=a) (cap:=cap) hi hw hr hg hv (fun k hk=>by
  grind) hcap (by grind [Ty.sz]) (fun o h _=>by
   grind [Ty.sz])
 simp only [Ys] at hand;refine⟨_,_,?_,hand⟩;rw [lR ho,hx];have hh:(w.drew.alloc (.cells cells e)).shape? w.heap.size=some (e,cells.size):=by
  have:(w.drew.alloc (.cells cells e)).heap[w.heap.size]? =some (.cells cells e (0,0)):=iA w.drew _
  grind [World.shape?]
 have run:(Conv.stringToBytes e t).run C.P w= .ok (.slice (some ⟨w.heap.size,0,none⟩) t.size cap) w' :=by
  simp only [Conv.stringToBytes,Sem.run_bind,run_choose_drew,hnf,YY,if_false,Result.andThen_ok,newRow,run_newObj_alloc,Sem.run_pure,markStringish,run_shape];show((match(w.drew.alloc (.cells cells e)).shape? w.heap.size with |some (_,n)=>freeze { block:=w.heap.size,off:=n } 1|_=>pure ()).run C.P (w.drew.alloc (.cells cells e))).andThen _=_;rw [hh]
  rfl
 simp only [convert,Sem.run_bind,run_underlying hs,run_underlying hd,Result.andThen_ok,run_underlying hu8,run]
 rfl
end
end Go.Ab
end
section
namespace Go.Ab
variable [Inhabited Lb]
def gP(n:Nat)(c:Nat):List (Nat×Nat)->Option (List (Nat×Nat))
 |(i,j)::p=>if c=0 then some ((n+i,j)::p) else none
 | []=>none
theorem nS(n:Nat):SrcOk n (gP n) where
 inj:=fun c p c' p' q h1 h2=>by
  match p,p',h1,h2 with
  | [],_,h1,_=>cases h1
  |_::_,[],_,h2=>cases h2
  |(i,j)::r,(i',j')::r',h1,h2=>
   grind [gP]
 new:=fun c p q h=>by
  match p,h with
  | [],h=>cases h
  |(i,j)::r,h=>
   grind [gP]
theorem lB{E E' :Env}{bxs:Nat->Prop}{T:Ty}{xs ys:List T.den}{f g rf:Fl}{nest kp:Bool}{n:Nat}(hn:xs.length=n)
 (hmode:(T.flat=true/\rf= .own)\/(nest=true/\f= .own/\g= .own/\rf= .own)\/(nest=false/\(f= .own\/f= .tip)/\(g= .own\/g= .tip\/g= .ro)/\rf= .tip))
 (hE:∀b,E.ow b≠some (.arr (.h 0) 0 [])->(0<E.hw b\/E.ow b≠none)->E'.ow b=(E.ow b).bind (cJ kp nest n (gP n))/\E'.hw b=E.hw b/\E'.w.heap[b]? =E.w.heap[b]?)
 {bb cap:Nat} {cs:Array Value} {ty:TypeId} {fr:Nat×Nat} (h1:E'.ow bb=some (.arr (.h 0) 0 [])) (h2:E'.hw bb=(n+ys.length)*T.sz) (h3:E'.w.heap[bb]? =some (.cells cs ty fr))
 (h4:n+ys.length<=cap) (h5:cap*T.sz=cs.size) (h6:∀o,fr.1<=o->o<fr.2->cap*T.sz<=o)
 (hold:∀i j (hi:i<xs.length) (hj:j<(T.toD xs[i]).length),∃u,cs[i*T.sz+j]? =some u/\RdP E.w (fun p=>okF E (.h 0) 0 f ((i,j)::p)) (fun p=>qF E (.h 0) 0 f ((i,j)::p)) u (T.toD xs[i])[j])
 (hnew:∀i j (hi:i<ys.length) (hj:j<(T.toD ys[i]).length),∃u,cs[(n+i)*T.sz+j]? =some u/\RdP E.w (fun p=>okF E (.h 1) 0 g ((i,j)::p)) (fun p=>qF E (.h 1) 0 g ((i,j)::p)) u (T.toD ys[i])[j]):
 VRc E' bxs (.h 0) 0 (.sl rf T (xs++ys)) (.slice (some ⟨bb,0,none⟩) (n+ys.length) cap):=by
 have hTip:Tip E' (.arr (.h 0) 0 []) (.slice (some ⟨bb,0,none⟩) (n+ys.length) cap) T.sz:=⟨h1,h2,h4,cs,ty,fr.1,fr.2,h3,h5,h6⟩;have hlen:∀r∈(xs++ys).map T.toD,r.length=T.sz:=by
  grind [Ty.toD_length]
 have hrf:rf= .own\/rf= .tip:=by
  grind
 have kold:∀i j u d,i<n->RdP E.w (fun p=>okF E (.h 0) 0 f ((i,j)::p)) (fun p=>qF E (.h 0) 0 f ((i,j)::p)) u d->(T.flat=true->d.flat=true)->
  RdP E'.w (fun p=>okF E' (.h 0) 0 rf ((i,j)::p)) (fun p=>qF E' (.h 0) 0 rf ((i,j)::p)) u d:=by
  intro i j u d hi h hfl;rcases hmode with ⟨hf,_⟩|⟨rfl,rfl,rfl,rfl⟩|⟨rfl,hf,hg,rfl⟩
  ·exact h.flat (hfl hf)
  ·refine fE (p0:=[(i,j)]) (fun p b hb=> ?_) h;obtain⟨a1,a2,a3⟩:=hE b (by grind) (.inr (by grind))
   grind [cJ]
  ·refine mS (p0:=[(i,j)]) (by grind) (fun b o ho hb=> ?_) h;obtain⟨a1,a2,a3⟩:=hE b (by grind) (.inl (by omega))
   grind [bD,cJ]
 have knew:∀i j u d,RdP E.w (fun p=>okF E (.h 1) 0 g ((i,j)::p)) (fun p=>qF E (.h 1) 0 g ((i,j)::p)) u d->(T.flat=true->d.flat=true)->
  RdP E'.w (fun p=>okF E' (.h 0) 0 rf ((n+i,j)::p)) (fun p=>qF E' (.h 0) 0 rf ((n+i,j)::p)) u d:=by
  intro i j u d h hfl;rcases hmode with ⟨hf,_⟩|⟨rfl,rfl,rfl,rfl⟩|⟨rfl,hf,hg,rfl⟩
  ·exact h.flat (hfl hf)
  ·refine fE (p0:=[(i,j)]) (g:=fun p=>(n+i,j)::p) (fun p b hb=> ?_) h
   grind [cJ,gP]
  ·refine mS (p0:=[(i,j)]) hg (fun b o ho hb=> ?_) h;obtain⟨a1,a2,a3⟩:=hE b (by grind) (.inl (by omega))
   grind [bD,cJ]
 show RdP E'.w _ _ _ (.sl T.sz ((xs++ys).map T.toD));refine eP h3 (by grind) h4 hlen ?_ (fun o ho=> ?_) (fun i j hi hj=> ?_)
 ·rcases hrf with rfl|rfl
  ·exact hTip
  ·exact fun _=>hTip
 ·have hh:o<E'.hw bb:=by grind
  rcases hrf with rfl|rfl
  ·exact⟨hh,h1⟩
  ·exact⟨hh,fun _=>h1,fun h=>absurd rfl h⟩
 ·have hi' :i<(xs++ys).length:=by grind
  have fl:∀(x:T.den) (j:Nat) (hj:j<(T.toD x).length),T.flat=true->((T.toD x)[j]).flat=true:=fun x j hj hf=>Ty.flat_toD hf x _ (ZN hj);by_cases hx:i<xs.length
  ·have e:((xs++ys).map T.toD)[i]=T.toD xs[i]:=by grind
   have hj' :j<(T.toD xs[i]).length:=by grind
   obtain⟨u,u1,u2⟩:=hold i j hx hj';refine⟨u,u1,?_⟩;have:=kold i j u _ (by omega) u2 (fl _ _ hj')
   grind
  ·have hy:i - n<ys.length:=by grind
   have e:((xs++ys).map T.toD)[i]=T.toD ys[i - n]:=by
    grind
   have hj' :j<(T.toD ys[i - n]).length:=by grind
   obtain⟨u,u1,u2⟩:=hnew (i - n) j hy hj';have e2:n+(i - n)=i:=by omega
   rw [e2] at u1;refine⟨u,u1,?_⟩;have:=knew (i - n) j u _ u2 (fl _ _ hj')
   simp_all
structure SrcRun (P:Program) (w:World) (sz m:Nat) (news:List Value) (x:Value):Prop where
 len:∀w1:World,(Builtin.lenOf x).run P w1= .ok m w1
 first:∀w1:World,w1.heap=w.heap->(Builtin.firstCells sz m x).run P w1= .ok news.toArray w1
 one:∀v∈news,v.oneCell' =true
 length:news.length=m*sz
theorem RdP.top{w:World}{ok:List (Nat×Nat)->Nat->Nat->Prop}{q:List (Nat×Nat)->Value->Nat->Prop}{v:Value}{sz:Nat}{rows:List (List D)}(h:RdP w ok q v (.sl sz rows)):q [] v sz:=by
 cases h with
 |nil a cap sz h=>exact h
 |sl b off n cap sz rows u hn hcap hr h=>exact h
theorem RdP.one{w:World}{ok:List (Nat×Nat)->Nat->Nat->Prop}{q:List (Nat×Nat)->Value->Nat->Prop}{v:Value}{d:D}(h:RdP w ok q v d):v.oneCell' =true:=by
 cases h <;>rfl
theorem iQ{P:Program}{w:World}{ok:List (Nat×Nat)->Nat->Nat->Prop}{q:List (Nat×Nat)->Value->Nat->Prop}{v:Value}{sz:Nat}{rows:List (List D)}(h:RdP w ok q v (.sl sz rows))(hz:0<sz):
 ∃news,SrcRun P w sz rows.length news v/\(∀b off n c,v= .slice (some ⟨b,off,none⟩) n c->∀j u,news[j]? =some u->w.cell? ⟨b,off+j,none⟩=some u)/\∀i j (hi:i<rows.length) (hj:j<rows[i].length),∃u,news[i*sz+j]? =some u/\RdP w (fun p=>ok ((i,j)::p)) (fun p=>q ((i,j)::p)) u (rows[i][j]):=by
 obtain⟨ad,cap,vals,rfl,h1,h2,h3,h4,h5⟩:=qM h hz;refine⟨vals,⟨fun w1=>rfl,fun w1 hw=> ?_,fun v hv=> ?_,h2⟩,fun b off n c hv j u hu=> ?_,h5⟩
 ·rcases h3 with h3|⟨b,off,rfl,h3⟩
  ·subst h3;have:vals=[]:=by simpa using h2
   subst this;cases ad with
   |none=>rfl
   |some ad=>
    grind [run_loadCells_list,Builtin.firstCells]
  grind [run_loadCells_list,dU,World.cell?,Builtin.firstCells]
 ·obtain⟨k,hk,rfl⟩:=List.mem_iff_getElem.1 hv;have hlt:k<rows.length*sz:=by grind
  have h6:k / sz<rows.length:=Nat.div_lt_of_lt_mul (by grind);have h7:k % sz<rows[k / sz].length:=by rw [h4 _ (ZN h6)];exact Nat.mod_lt _ hz
  obtain⟨u,u1,u2⟩:=h5 _ _ h6 h7;rw [Nat.mul_comm,Nat.div_add_mod,Zv hk] at u1;cases u1;exact u2.one
 grind
theorem y8{P:Program}{w:World}(t:ByteArray):SrcRun P w 1 t.size (t.data.toList.map fun b=>Value.int .u8 b.toNat) (.string t) where
 len:=fun _=>rfl
 first:=fun w1 _=>by
  have:(t.extract 0 t.size).data=t.data:=by simp
  simp only [Builtin.firstCells,this,Sem.run_pure]
  congr 1
  grind
 one:=fun v hv=>by obtain⟨b,_,rfl⟩:=Zk.1 hv;rfl
 length:=by simp_all
section
variable {P:Program} {w:World} {t0 t1 ty e:TypeId} {te:TypeInfo} {z:Value} {x:Value} {n m cap:Nat} {news:List Value}
theorem qW(ht:P.underlying t0=some (.slice e))(hd:(∃e',P.underlying t1=some (.slice e'))\/P.underlying t1=some .string)(hte:P.info? e=some te)
 (hs:SrcRun P w te.size 0 news x):(Builtin.append_ #[t0,t1] ty #[.slice none 0 0,x]).run P w= .ok (.slice none 0 0) w:=by
 have h1:=hs.len w;have h2:=hs.first w rfl;rcases hd with ⟨e',ht1⟩|ht1 <;>simp [Builtin.append_,run_underlying ht,run_underlying ht1,sizeOf,typeInfo,hte,h1,h2]
theorem qX(ht:P.underlying t0=some (.slice e))(hd:(∃e',P.underlying t1=some (.slice e'))\/P.underlying t1=some .string)(hte:P.info? e=some te)
 (hs:SrcRun P w te.size m news x) {b:Nat} (hroom:n+m<=cap) (hcell:∀j,j<news.length->(w.cell? ⟨b,n*te.size+j,none⟩).isSome=true)
 (hfro:∀j,j<news.length->w.frozen? ⟨b,n*te.size+j,none⟩=false):
 (Builtin.append_ #[t0,t1] ty #[.slice (some ⟨b,0,none⟩) n cap,x]).run P w= .ok (.slice (some ⟨b,0,none⟩) (n+m) cap) (w.setCells b (n*te.size) news):=by
 have h1:=hs.len w;have h2:=hs.first w rfl;have hst:=run_storeCells_cells (P:=P) b (n*te.size) news 0 w (by grind) (by grind) hs.one;rw [Nat.add_zero] at hst;have ha:(⟨b,0,none⟩:Addr).add (n*te.size)=⟨b,n*te.size,none⟩:=by grind [dU]
 rcases hd with ⟨e',ht1⟩|ht1 <;>simp [Builtin.append_,run_underlying ht,run_underlying ht1,sizeOf,typeInfo,hte,h1,h2,hroom,ha,hst]
theorem qV(ht:P.underlying t0=some (.slice e))(hd:(∃e',P.underlying t1=some (.slice e'))\/P.underlying t1=some .string)(hte:P.info? e=some te)(hz:te.zero=some z)
 (hs:SrcRun P w te.size m news x) {s:Option Addr} {olds:List Value} (ho:SrcRun P w te.size n olds (.slice s n cap)) (hg:cap<n+m) (hL:n+m<=Lim) (hby:te.bytes<=256):
 (Builtin.append_ #[t0,t1] ty #[.slice s n cap,x]).run P w= .ok (.slice (some ⟨w.heap.size,0,none⟩) (n+m) (grownCap w (n+m) cap e))
   (w.drew.alloc (.cells (olds++news++(Builtin.zeroCells z.cells (grownCap w (n+m) cap e - (n+m))).toList).toArray e)):=by
 have h1:=hs.len w;have h2:=hs.first w.drew rfl;have h3:=ho.first w.drew rfl;have hL' :n+m<=274877906944:=hL;have hb:(n+m)*te.bytes<=140737488355328:=by
  have:(n+m)*te.bytes<=274877906944*256:=Yh hL' hby;omega
 have hfit:=growslice_fits hg hb;have hn:¬(n+m<=cap):=by omega
 have h63' :¬(9223372036854775807<((n:Int)+(m:Int))):=by omega
 have h48' :¬(281474976710656<Builtin.nextslicecap (n+m) cap*te.bytes):=by omega
 rcases hd with ⟨e',ht1⟩|ht1
 all_goals
  simp [Builtin.append_,run_underlying ht,run_underlying ht1,sizeOf,typeInfo,zeroValue,hte,hz,h1,hn,h63',h48',Question.forced,h2,h3,newRow,grownCap]
  congr 2
  grind
end
section
variable {C:Ctx} {σ:St} {a:Act} {E:Env} {u u' u'' :Ups} {tt:TT} {o:Oper} {md:Md} {v:AV} {ob:List Prop} {ty:TypeId}
theorem sO{w:World}(hi:Inv C (St.get (u++σ)) a.tmps E)(hw:E.w=w){t0 t1 e:TypeId}{te:TypeInfo}{z:Value}{T:Ty}(ht:C.P.underlying t0=some (.slice e))
 (hd:(∃e',C.P.underlying t1=some (.slice e'))\/C.P.underlying t1=some .string) (hte:C.P.info? e=some te) (hsz:te.size=T.sz) (hby:te.bytes<=256) (hz:te.zero=some z)
 (hzc:z.cells.size=T.sz) {xs ys:List T.den} {f g rf:Fl} {nest:Bool} (hf:f= .own\/f= .tip)
 (hmode:(T.flat=true/\rf= .own)\/(nest=true/\f= .own/\g= .own/\rf= .own)\/(nest=false/\(f= .own\/f= .tip)/\(g= .own\/g= .tip\/g= .ro)/\rf= .tip))
 {v0 x:Value} (hv0:VRc E (aA (St.get (u++σ))) (.h 0) 0 (.sl f T xs) v0) {news:List Value} (hs:SrcRun C.P w T.sz ys.length news x)
 (hnew:∀i j (hi:i<ys.length) (hj:j<(T.toD ys[i]).length),∃u,news[i*T.sz+j]? =some u/\RdP E.w (fun p=>okF E (.h 1) 0 g ((i,j)::p)) (fun p=>qF E (.h 1) 0 g ((i,j)::p)) u (T.toD ys[i])[j])
 (hL:xs.length+ys.length<=Lim) (ty:TypeId):
 ∃val w',(Builtin.append_ #[t0,t1] ty #[v0,x]).run C.P w= .ok val w' /\Hand C (u++σ) a.tmps w' 0 (.v false [.sl rf T (xs++ys)]) val:=by
 subst hw;have hp:=Ty.sz_pos T;have hv0:RdP E.w (okF E (.h 0) 0 f) (qF E (.h 0) 0 f) v0 (.sl T.sz (xs.map T.toD)):=hv0;obtain⟨olds,ho,hoc,hok⟩:=iQ (P:=C.P) hv0 hp;obtain⟨ad,cap,rfl,hcap⟩:=hv0.shape;rw [Zm] at ho hcap;have hq:Tip E (.arr (.h 0) 0 []) (.slice ad (xs.map T.toD).length cap) T.sz:=by
  have:qF E (.h 0) 0 f [] (.slice ad (xs.map T.toD).length cap) T.sz:=hv0.top;rcases hf with rfl|rfl
  ·exact this
  ·exact this rfl
 rw [Zm] at hq ⊢;have hold:∀i j (hi:i<xs.length) (hj:j<(T.toD xs[i]).length),∃u,olds[i*T.sz+j]? =some u/\RdP E.w (fun p=>okF E (.h 0) 0 f ((i,j)::p)) (fun p=>qF E (.h 0) 0 f ((i,j)::p)) u (T.toD xs[i])[j]:=by
  simp_all
 have hsrc:=nS xs.length;have hnl:=hs.length;have hol:=ho.length;have hlt:∀(n i j:Nat),i<n->j<T.sz->i*T.sz+j<n*T.sz:=by
  intro n i j hi hj
  calc i*T.sz+j<i*T.sz+T.sz:=by omega
   _=(i+1)*T.sz:=by grind
   _<=n*T.sz:=Z1 _ hi
 by_cases hroom:xs.length+ys.length<=cap
 ·match ad,hq with
  |none,hq=>
   obtain⟨h0,rfl⟩:xs.length=0/\cap=0:=hq;have hx:xs=[]:=Z3.1 h0;have hy:ys=[]:=Z3.1 (by omega);subst hx hy;refine⟨_,_,qW ht hd hte (by rw [hsz];exact hs),E,rfl,hi,?_,trivial⟩;have hrf:rf= .own\/rf= .tip:=by grind
   refine RdP.nil none 0 T.sz ?_;rcases hrf with rfl|rfl
   ·exact⟨rfl,rfl⟩
   ·exact fun _=>⟨rfl,rfl⟩
  |some ⟨b,off,sp⟩,hq=>
   match off,sp,hq with
   |_+1,_,hq=>exact hq.elim
   |0,some _,hq=>exact hq.elim
   |0,none,hq=>
    obtain⟨q1,q2,q3,cs,cty,lo,hi',q4,q5,q6⟩:=hq;have hin:∀j,j<news.length->xs.length*T.sz+j<cap*T.sz:=by
     intro j hj;have:(xs.length+ys.length)*T.sz<=cap*T.sz:=Z1 _ hroom
     grind
    have run:=qX (ty:=ty) ht hd hte (by rw [hsz];exact hs) (b:=b) hroom (fun j hj=>by
     grind [World.cell?]) (fun j hj=>by
     grind [World.frozen?])
    rw [hsz] at run;obtain⟨st,hi2⟩:=vW (vs:=news) (o:=xs.length*T.sz) (m:=(xs.length+ys.length)*T.sz) hi (i6 (kp:=true) (nest:=nest) hsrc) jQ q1 (.inl rfl) q4 (by omega) (by grind);obtain⟨cs',c1,c2,c3⟩:=dQ b news (xs.length*T.sz) E.w q4;refine⟨_,_,run,_,rfl,hi2,?_,trivial⟩;refine lB (E:=E) (kp:=true) (nest:=nest) rfl hmode (fun b' hb _=> ?_) (by grind [Env.growArr,cJ]) (by simp [Env.growArr]) c1 hroom (by grind) (fr:=(lo,hi')) q6 (fun i j hi hj=> ?_) (fun i j hi hj=> ?_)
    ·have hne:b' ≠b:=by grind
     grind [Env.growArr,d8]
    ·obtain⟨u1,g1,g2⟩:=hold i j hi hj;refine⟨u1,?_,g2⟩;have hjs:j<T.sz:=by grind [Ty.toD_length]
     have hk:=hlt xs.length i j hi hjs;rw [c3,Za (by omega)];have:=hoc b 0 xs.length cap (by grind) _ _ g1;rw [Zc] at this;simpa [World.cell?,q4] using this
    ·obtain⟨u1,g1,g2⟩:=hnew i j hi hj;refine⟨u1,?_,g2⟩;have hk:i*T.sz+j<news.length:=(Zs.1 g1).1;have:=hin _ hk;rw [Yt,ZA,c3,Zt ⟨YW _ _,by omega,by omega⟩,Yu]
     grind
 ·have hcapge:=grownCap_ge E.w (xs.length+ys.length) cap e;have run:=qV (ty:=ty) ht hd hte hz (by rw [hsz];exact hs) (s:=ad) (n:=xs.length) (cap:=cap) (olds:=olds) (by grind) (by omega) hL hby;generalize hgc:grownCap E.w (xs.length+ys.length) cap e=gc at*;have hg:=Grown.drew E.w (olds++news++(Builtin.zeroCells z.cells (gc - (xs.length+ys.length))).toList).toArray e;obtain⟨st,hi2⟩:=mH hi hg (i6 (kp:=false) (nest:=nest) hsrc) jQ (lD hsrc) ((xs.length+ys.length)*T.sz);have hn:=hi.new E.w.heap.size (Zn _);refine⟨_,_,run,_,rfl,hi2,?_,trivial⟩;have hcsz:(olds++news++(Builtin.zeroCells z.cells (gc - (xs.length+ys.length))).toList).toArray.size=gc*T.sz:=by
   have e1:∀k,(Builtin.zeroCells z.cells k).toList.length=k*T.sz:=by
    grind [size_zeroCells]
   rw [List.size_toArray,jA,jA,e1,hol,hnl,<-Yt,<-Yt]
   grind
  refine lB (E:=E) (kp:=false) (nest:=nest) rfl hmode (fun b' hb hb2=> ?_) (by simp [Env.newArr]) (by simp [Env.newArr]) hg.new hcapge (hcsz.symm) (fr:=(0,0)) (fun o _ h=>absurd h (Ya o)) (fun i j hi hj=> ?_) (fun i j hi hj=> ?_)
  ·have hne:b' ≠E.w.heap.size:=by
    grind
   exact⟨by grind [Env.newArr],by grind [Env.newArr],hg.old b' hne⟩
  ·obtain⟨u1,g1,g2⟩:=hold i j hi hj
   grind
  ·obtain⟨u1,g1,g2⟩:=hnew i j hi hj;refine⟨u1,?_,g2⟩;have hk:i*T.sz+j<news.length:=(Zs.1 g1).1;rw [List.getElem?_toArray,Z5,Yt,ZA,ZS (by omega),hol,Yu,Z0 hk]
   grind
end
end Go.Ab
namespace Go.Ab
variable [Inhabited Lb]
section
variable {C:Ctx} {σ:St} {a:Act} {E:Env} {u u' u'' :Ups} {tt:TT} {o:Oper} {md:Md} {v:AV} {ob:List Prop} {ty:TypeId}
theorem pE{i:TI}(h:i.isSlice=true):∃e T,i.elem=some (e,T):=by
 grind [TI.isSlice]
theorem sP{w:World}(htt:aP C.P tt)(hi:Inv C (St.get (u++σ)) a.tmps E)(hw:E.w=w){c:Call}(ho:o.op= .call c)(hc:c.callee= .builtin .append){x y:Operand}{t0 t1:TypeId}
 (ha:c.args.toList=[x,y]) (hat:c.argTypes.toList=[t0,t1]) {i j:TI} (hti:tt.get t0=some i) (htj:tt.get t1=some j) {md' :Md} (hmd:md' = .take\/md' = .cp) {p q:CV} {u1 u2:Ups} {p0 q0:AV}
 (h1:Mr (opd tt .take t0 x) σ u=some (p0,u1)) (hp:p0= .v false [p]) (h2:Mr (opd tt md' t1 y) σ u1=some (q0,u2)) (hq:q0= .v false [q]) (hfit:gO i j p q=true) {r:CV} {ob:List Prop}
 (hr:lA p q=some (r,ob)) (hob:∀P∈ob,P):Good C (u2++σ) a w o (.v false [r]):=by
 subst hp hq;obtain⟨E1,e1,e2,e3,e4,e5,e6⟩:=eI hi 0 h1
 obtain⟨E2,f1,f4,f5,f0⟩:∃E2,E2.w=E1.w/\Inv C (St.get (u2++σ)) a.tmps E2/\VRc E2 (aA (St.get (u2++σ))) (.h 1) 0 q (a.eval y)/\
  ((p.owning=true)->(∀k c,¬p.speaks k c)->p.isBor=false->VRc E2 (aA (St.get (u2++σ))) (.h 0) 0 p (a.eval x)):=by
  rcases hmd with rfl|rfl
  ·obtain⟨E2,g1,g2,g3,g4,g5,g6⟩:=eI e4 1 h2;refine⟨E2,g1,g4,g5.1,fun h0 hs hb=> ?_⟩
   exact VRc.step g3 (fun s hs=>⟨g6 s hs,by rw [g2]⟩) (fun _ hd=>by
    grind) (fun k c h=>absurd h (hs k c)) (fun h=>by grind) e5.1
  ·obtain⟨rfl,g⟩:=eH e4 h2;exact⟨E1,rfl,e4,(g (.h 1)).1,fun _ _ _=>e5.1⟩
 have hargs:c.args.map a.eval= #[a.eval x,a.eval y]:=by
  grind [Array.toList_map]
 have hats:c.argTypes= #[t0,t1]:=Yg hat;simp only [gO,Zu] at hfit;obtain⟨hf1,hf2⟩:=hfit
 have fin:∀ {T:Ty} {xs ys:List T.den} {f g rf:Fl} {nest:Bool} {news:List Value},i.isOf T=true->(f= .own\/f= .tip)->
  ((T.flat=true/\rf= .own)\/(nest=true/\f= .own/\g= .own/\rf= .own)\/(nest=false/\(f= .own\/f= .tip)/\(g= .own\/g= .tip\/g= .ro)/\rf= .tip))->
  VRc E2 (aA (St.get (u2++σ))) (.h 0) 0 (.sl f T xs) (a.eval x)->SrcRun C.P E2.w T.sz ys.length news (a.eval y)->
  (∀i j (hi:i<ys.length) (hj:j<(T.toD ys[i]).length),∃u,news[i*T.sz+j]? =some u/\RdP E2.w (fun p=>okF E2 (.h 1) 0 g ((i,j)::p)) (fun p=>qF E2 (.h 1) 0 g ((i,j)::p)) u (T.toD ys[i])[j])->
  ((∃e',C.P.underlying t1=some (.slice e'))\/C.P.underlying t1=some .string)->xs.length+ys.length<=Lim->
  Good C (u2++σ) a w o (.v false [.sl rf T (xs++ys)]):=by
  intro T xs ys f g rf nest news hof hf hmode hx hs hn hd hL;obtain⟨e,he⟩:=iC hof;obtain⟨hu,te,zv,k1,k2,k3,k4,k5,k6⟩:=(htt t0 i hti).elem e T he;have hzc:zv.cells.size=T.sz:=by
   have:=kS k6
   grind [Ty.enc_length]
  obtain⟨val,w',hrun,hand⟩:=sO f4 rfl hu hd k1 k2 k4 k5 hzc hf hmode hx hs hn hL o.type;refine⟨val,w',?_,hand⟩;rw [oJ ho hc,hargs,hats,<-(show E2.w=w by grind),hrun]
  rfl
 unfold lA at hr;split at hr
 ·rename_i f T xs g U ys;split at hr
  ·rename_i hUT;subst hUT;split at hr
   ·rename_i hf;have hown:(CV.sl f U xs).owning=true:=by rcases hf with rfl|rfl <;>rfl
    have hx:=f0 hown (by rcases hf with rfl|rfl <;>exact fun _ _ h=>h) (by rcases hf with rfl|rfl <;>rfl);obtain⟨e',T',he'⟩:=pE (i:=j) hf2;obtain⟨hu',_⟩:=(htt t1 j htj).elem e' T' he';obtain⟨news,s1,s2,s3⟩:=iQ (P:=C.P) (v:=a.eval y) f5 (Ty.sz_pos U);rw [Zm] at s1;have s4:∀i j (hi:i<ys.length) (hj:j<(U.toD ys[i]).length),∃u,news[i*U.sz+j]? =some u/\RdP E2.w (fun p=>okF E2 (.h 1) 0 g ((i,j)::p)) (fun p=>qF E2 (.h 1) 0 g ((i,j)::p)) u (U.toD ys[i])[j]:=by
     intro i j hi hj;have:=s3 i j (by grind) (by grind)
     grind
    split at hr
    ·rename_i hflat;cases hr;exact fin (nest:=false) hf1 hf (.inl ⟨hflat,rfl⟩) hx s1 s4 (.inl ⟨e',hu'⟩) (hob _ (by simp))
    ·split at hr
     ·rename_i hg;cases hr;by_cases hfg:f= .own/\g= .own
      ·rw [Zt hfg];exact fin (nest:=true) hf1 hf (.inr (.inl ⟨rfl,hfg.1,hfg.2,rfl⟩)) hx s1 s4 (.inl ⟨e',hu'⟩) (hob _ (by simp))
      ·rw [Za hfg];exact fin (nest:=false) hf1 hf (.inr (.inr ⟨rfl,hf,by grind,rfl⟩)) hx s1 s4 (.inl ⟨e',hu'⟩) (hob _ (by simp))
     grind
   grind
  grind
 ·rename_i f xs ys;split at hr
  ·rename_i hf;cases hr;have hown:(CV.sl f .byte xs).owning=true:=by rcases hf with rfl|rfl <;>rfl
   have hx:=f0 hown (by rcases hf with rfl|rfl <;>exact fun _ _ h=>h) (by rcases hf with rfl|rfl <;>rfl);obtain⟨t,hy,rfl⟩:=f5;rw [hy] at fin
   have hl:(t.data.toList.map fun c=>(c.toNat:Int)).length=t.size:=by grind [gR]
   refine fin (T:= .byte) (g:= .ro) (nest:=false) hf1 hf (.inl ⟨rfl,rfl⟩) hx (by rw [hl];exact y8 t) (fun i j hi hj=> ?_) (.inr ((htt t1 j htj).str hf2)) (by rw [hl,<-gR];exact hob _ (by simp));have hj0:j=0:=by grind [Ty.toD]
   subst hj0;refine⟨_,by simp only [Ty.sz,Nat.mul_one,Nat.add_zero];rw [Ze,Zv (by grind)];rfl,?_⟩;simp only [Ty.toD,Yx,List.getElem_cons_zero];exact .int .u8 _
  grind
 grind
end
end Go.Ab
end
section
namespace Go.Ab
variable [Inhabited Lb]
def gI:List (Nat×Nat)->List (Nat×Nat)->Option (List (Nat×Nat))
 | [],q=>some q
 |x::p,y::q=>if x=y then gI p q else none
 |_::_,[]=>none
theorem gJ:∀ {p q r:List (Nat×Nat)},gI p q=some r↔q=p++r
 | [],q,r=>by simp [gI]
 |x::p,[],r=>by simp [gI]
 |x::p,y::q,r=>by
  simp only [gI,jO,Y9];split
  ·rename_i h;subst h;rw [gJ];simp
  grind
def cL(p:List (Nat×Nat))(i off m:Nat)(q:List (Nat×Nat)):Bool:=
 match gI p q with
 |some (x::_)=>decide (x.1=i/\off<=x.2/\x.2<off+m)
 |_=>false
def dK(k c:Nat)(p:List (Nat×Nat))(i off m:Nat):Own->Option Own
 | .arr (.k k') c' q=>if k' =k/\c' =c/\cL p i off m q=true then none else some (.arr (.k k') c' q)
 | .arr (.h j) c' q=>if j=0 then(if c' <m then some (.arr (.k k) c (p++(i,off+c')::q)) else none) else some (.arr (.h j) c' q)
 | .box s=>some (.box s)
def dkM(k c:Nat):Pl->Nat->Prop:=fun pl c' =>(pl= .k k/\c' =c)\/pl= .h 0
theorem pD{p:List (Nat×Nat)}{i off m c' :Nat}{q:List (Nat×Nat)}(h:c' <m):cL p i off m (p++(i,off+c')::q)=true:=by
 unfold cL;rw [gJ.2 rfl]
 grind
theorem pR{k c:Nat}{p:List (Nat×Nat)}{i off m:Nat}{l1 l:Own}(h:dK k c p i off m l1=some l):
 (∃k' c' q,l1= .arr (.k k') c' q/\¬(k' =k/\c' =c/\cL p i off m q=true)/\l=l1)\/(∃c' q,l1= .arr (.h 0) c' q/\c' <m/\l= .arr (.k k) c (p++(i,off+c')::q))\/
   (∃j c' q,l1= .arr (.h j) c' q/\l=l1)\/(∃s,l1= .box s/\l=l1):=by
 unfold dK at h
 grind
theorem wY(k c:Nat)(p:List (Nat×Nat))(i off m:Nat):RhoOk (dK k c p i off m) (dkM k c) where
 box:=fun _=>rfl
 id:=fun pl c' q h=>by
  unfold dkM at h;cases pl with
  |k n=>
   grind [dK]
  |h n=>grind [dK]
 inj:=fun l1 l2 l h1 h2=>by
  grind [pR,pD,List.append_cancel_left_eq]
 arr:=fun k c p s h=>by
  grind [pR]
structure MutSet (E E' :Env) (k c:Nat) (P:List (Nat×Nat)) (b i off:Nat) (T:Ty) (vs:List CV) (vals:List Value):Prop where
 hb:E.ow b=some (.arr (.k k) c P)
 inj:∀b b' l,E.ow b=some l->E.ow b' =some l->b=b'
 owb:E'.ow b=some (.arr (.k k) c P)
 hwb:E'.hw b=E.hw b
 moves:∀ {l:List (Nat×Nat)},l≠P->cL P i off vs.length l=false->fK E E' (.arr (.k k) c l) (.arr (.k k) c l)
 cells:∃(cs cs' :Array Value) (ty:TypeId) (fr:Nat×Nat),E.w.heap[b]? =some (.cells cs ty fr)/\E'.w.heap[b]? =some (.cells cs' ty fr)/\cs'.size=cs.size/\
  ∀o,cs'[o]? =if i*T.sz+off<=o/\o<i*T.sz+off+vals.length/\o<cs.size then vals[o - (i*T.sz+off)]? else cs[o]?
 len:vs.length=vals.length
 fresh:∀(j:Nat) (y:CV) (v:Value),vs[j]? =some y->vals[j]? =some v->y.fits true=true->
  RdP E'.w (fun q=>okF E' (.k k) c .own (P++(i,off+j)::q)) (fun q=>qF E' (.k k) c .own (P++(i,off+j)::q)) v y.toD
 hi:(i+1)*T.sz<=E.hw b
section
variable {E E' :Env} {bxs:Nat->Prop} {k c:Nat} {P:List (Nat×Nat)} {b i off:Nat} {T:Ty} {vs:List CV} {vals:List Value}
theorem vY{P:List (Nat×Nat)}{i off m:Nat}:cL P i off m P=false:=by
 unfold cL;rw [(gJ (p:=P) (q:=P) (r:=[])).2 (by simp)]
theorem xP{p0 p:List (Nat×Nat)}{x y:Nat×Nat}(hxy:x≠y)(r:List (Nat×Nat))(i off m:Nat):p0++x::r≠p0++y::p/\cL (p0++y::p) i off m (p0++x::r)=false:=by
 grind [List.append_cancel_left_eq,cL,gJ]
theorem vZ{P:List (Nat×Nat)}{x:Nat×Nat}{r:List (Nat×Nat)}{i off m:Nat}(h:¬(x.1=i/\off<=x.2/\x.2<off+m)):P++x::r≠P/\cL P i off m (P++x::r)=false:=by
 refine⟨fun e=> ?_,?_⟩
 ·simp_all
 ·unfold cL;rw [gJ.2 rfl]
  grind
theorem MutSet.of(hb:E.ow b=some (.arr (.k k) c P))(inj:∀b b' l,E.ow b=some l->E.ow b' =some l->b=b')(ow:∀b',E'.ow b' =(E.ow b').bind (dK k c P i off vs.length))(hw:∀b',E'.hw b' =E.hw b')
 (same:∀b',b' ≠b->E'.w.heap[b']? =E.w.heap[b']?)
 (cells:∃(cs cs' :Array Value) (ty:TypeId) (fr:Nat×Nat),E.w.heap[b]? =some (.cells cs ty fr)/\E'.w.heap[b]? =some (.cells cs' ty fr)/\cs'.size=cs.size/\
   ∀o,cs'[o]? =if i*T.sz+off<=o/\o<i*T.sz+off+vals.length/\o<cs.size then vals[o - (i*T.sz+off)]? else cs[o]?)
 (hv:VRs E bxs (.h 0) 0 vs vals) (hi:(i+1)*T.sz<=E.hw b):MutSet E E' k c P b i off T vs vals where
 hb:=hb
 inj:=inj
 owb:=by grind [dK,vY]
 hwb:=hw b
 cells:=cells
 len:=bB hv
 hi:=hi
 moves:=fun {l} hl hh b' hb' =>by
  grind [dK]
 fresh:=fun j y v hy hv' hf=>by
  have hv:=bH hv hy hv';rw [Zc] at hv;have hj:j<vs.length:=(Zs.1 hy).1;cases y with
  |int k n=>obtain rfl:v=_:=hv;exact .int k n
  |bool b=>obtain rfl:v=_:=hv;exact .bool b
  |str t=>obtain⟨s,rfl,rfl⟩:=hv;exact .str s
  |sl g U xs=>
   cases g <;>first |(simp [CV.fits] at hf;done) |skip
   refine fE (p0:=[]) (g:=fun q=>P++(i,off+j)::q) (fun q b' hb' => ?_) hv
   grind [dK]
  |_=>grind [CV.fits]
theorem xF(M:MutSet E E' k c P b i off T vs vals):∀(p p0:List (Nat×Nat)) (x x' :CV) (v:Value),P=p0++p->cY x p (eQ T i off vs)=some x' ->
 RdP E.w (fun q=>okF E (.k k) c .own (p0++q)) (fun q=>qF E (.k k) c .own (p0++q)) v x.toD->
 (∃fl U xs xs',x= .sl fl U xs/\x' = .sl fl U xs' /\xs'.length=xs.length)/\
   RdP E'.w (fun q=>okF E' (.k k) c .own (p0++q)) (fun q=>qF E' (.k k) c .own (p0++q)) v x'.toD:=by
 intro p
 induction p with
 |nil=>
  intro p0 x x' v hP hn hrd;rw [Z8] at hP;subst hP;rw [cY] at hn;unfold eQ at hn;split at hn
  ·rename_i fl U xs;split at hn
   ·rename_i hU;subst hU;split at hn
    ·rename_i row hfl hset;split at hn
     ·rename_i r hdec;cases hn;refine⟨⟨fl,U,xs,xs.set i r,rfl,rfl,by simp⟩,?_⟩;have hsz:=Ty.sz_pos U;obtain⟨cs,cs',cty,fr,c1,c2,c3,c4⟩:=M.cells;have hvl:=M.len;have htop:∀v,Tip E (.arr (.k k) c P) v U.sz->Tip E' (.arr (.k k) c P) v U.sz:=by
       intro v ht;unfold Tip at ht ⊢;split at ht
       ·obtain⟨h1,h2,h3,cs0,ty0,lo,hi,h4,h5⟩:=ht;have hbb:=M.inj _ _ _ h1 M.hb;subst hbb;rw [c1] at h4;cases h4;exact⟨M.owb,M.hwb.trans h2,h3,cs',cty,lo,hi,c2,by grind⟩
       all_goals grind
      by_cases hxs:xs=[]
      ·subst hxs;have hq:=hrd.top;simp only [Z8] at hq;obtain⟨ad,cap,rfl,hcap⟩:=RdP.shape hrd;have ht:=htop _ hq;refine RdP.nil ad cap U.sz ?_;simp only [Z8];exact ht
      ·have hne:xs.map U.toD≠ []:=by simp_all
       obtain⟨b',o',cap,rfl,hcap,hlen,hq,u,hc,hk⟩:=RdP.cells hrd hne;simp only [Z8] at hq hc;have hq:Tip E (.arr (.k k) c P) (.slice (some ⟨b',o',none⟩) (xs.map U.toD).length cap) U.sz:=hq;have ho' :o' =0:=by
        match o',hq with
        |0,_=>rfl
        |_+1,hq=>exact hq.elim
       subst ho';have hq2:=hq;obtain⟨q1,q2,q3,_⟩:=hq2;have hbb:=M.inj _ _ _ q1 M.hb;subst hbb;have hix:i<xs.length:=by
        have h1:=M.hi
        grind [Nat.le_of_mul_le_mul_right]
       have hsl:=gF hset;rw [Ty.enc_length] at hsl;have htd:=Ty.dec_toD U row r hdec;show RdP E'.w _ _ _ (.sl U.sz ((xs.set i r).map U.toD));have hlen' :∀z∈(xs.set i r).map U.toD,z.length=U.sz:=by
        grind
       have hqt:=htop _ hq;rw [Zm] at hqt hcap;rw [Zm];refine eP c2 (by simp) hcap hlen' (by simp only [Z8];exact hqt) (fun o ho=> ?_) (fun i' j hi' hj=> ?_)
       ·simp only [Z8];refine⟨?_,hqt.1⟩;rw [hqt.2.1];grind
       ·have hi2:i' <xs.length:=by grind
        have e1:((xs.set i r).map U.toD)[i']=U.toD ((xs.set i r)[i']'(by grind)):=by grind
        have hjs:j<U.sz:=by grind
        have hidx:(i*U.sz+off<=i' *U.sz+j/\i' *U.sz+j<i*U.sz+off+vals.length)↔(i' =i/\off<=j/\j<off+vs.length):=by
         constructor
         ·rintro ⟨h1,h2⟩;rcases Nat.lt_trichotomy i' i with h|h|h
          ·have:(i' +1)*U.sz<=i*U.sz:=Z1 _ h
           grind
          ·grind
          ·have:(i+1)*U.sz<=i' *U.sz:=Z1 _ h
           grind
         grind
        obtain⟨hcell,_⟩:=hc i' j (by grind) hjs;rw [Zc] at hcell;have hcs:cs[i' *U.sz+j]? =some (u i' j):=by grind [World.cell?]
        have hcl:i' *U.sz+j<cs.size:=(Zb.1 hcs).1;by_cases hit:i' =i/\off<=j/\j<off+vs.length
        ·obtain⟨h1,h2⟩:=hidx.2 hit;have hjv:i' *U.sz+j - (i*U.sz+off)=j - off:=by grind
         have hjl:j - off<vals.length:=by omega
         refine⟨vals[j - off],by grind,?_⟩;have hrow:row[j]? =some (vs[j - off]'(by omega)):=by
          rw [gE hset,Zt hit.2,Zv]
         have hfit:(vs[j - off]'(by omega)).fits true=true:=(pY hfl).2 _ (ZN _);have ed:((xs.set i r).map U.toD)[i'][j]=(vs[j - off]'(by omega)).toD:=by
          grind
         rw [ed];obtain⟨rfl,hj1,hj2⟩:=hit;have:=M.fresh (j - off) _ _ (Zv (by omega:j - off<vs.length)) (Zv hjl) hfit
         simp_all
        ·refine⟨u i' j,by rw [c4,Za (fun h=>hit (hidx.1 ⟨h.1,h.2.1⟩))];grind,?_⟩;have ed:((xs.set i r).map U.toD)[i'][j]? =((xs.map U.toD)[i']'(by grind))[j]? :=by
          rw [e1,Yx];by_cases hii:i' =i
          ·grind [gE,Ty.enc_toD]
          grind
         have hj2:j<((xs.map U.toD)[i']'(by grind)).length:=by grind
         have ed2:((xs.set i r).map U.toD)[i'][j]=((xs.map U.toD)[i']'(by grind))[j]:=by
          grind
         rw [ed2];have hkk:=hk i' j (by grind) hj2;refine fE (E:=E) (k:= .k k) (k' := .k k) (c:=c) (c' :=c) (p0:=P++ [(i',j)]) (g:=fun q=>P++(i',j)::q) (fun q=> ?_) ?_
         ·have:=vZ (P:=P) (x:=(i',j)) (r:=q) (i:=i) (off:=off) (m:=vs.length) hit;rw [Z5,List.singleton_append];exact M.moves this.1 this.2
         simp_all
     grind
    grind
   grind
  grind
 |cons q p ih=>
  obtain⟨a,d⟩:=q;intro p0 x x' v hP hn hrd;cases x with
  |sl fl U xs=>
   simp only [cY] at hn;split at hn
   ·rename_i y hy;split at hn
    ·rename_i y' hy';split at hn
     ·rename_i x1 hdec;cases hn;refine⟨⟨fl,U,xs,xs.set a x1,rfl,rfl,by simp⟩,?_⟩;have hsz:=Ty.sz_pos U;have hp0:p0≠P:=by
       simp_all
      have hp0h:cL P i off vs.length p0=false:=by
       unfold cL;split
       ·rename_i z t hz;rw [gJ,hP] at hz;have:=Zl List.length hz
        grind
       ·rfl
      have hm0:=M.moves hp0 hp0h;by_cases hxs:xs=[]
      ·subst hxs;have hq:=hrd.top;simp only [Z8] at hq;obtain⟨ad,cap,rfl,hcap⟩:=RdP.shape hrd;have ht:=Tip.moves hm0 hq;refine RdP.nil ad cap U.sz ?_;simp only [Z8];exact ht
      have hne:xs.map U.toD≠ []:=by simp_all
      obtain⟨b',o',cap,rfl,hcap,hlen,hq,u,hc,hk⟩:=RdP.cells hrd hne;simp only [Z8] at hq hc;have hq:Tip E (.arr (.k k) c p0) (.slice (some ⟨b',o',none⟩) (xs.map U.toD).length cap) U.sz:=hq;have ho' :o' =0:=by
       match o',hq with
       |0,_=>rfl
       |_+1,hq=>exact hq.elim
      subst ho';have hqt:=Tip.moves hm0 hq;obtain⟨q1,q2,q3,cs,cty,lo,hi,q4,q5,q6⟩:=hq;obtain⟨m1,m2,m3⟩:=hm0 b' q1;have htd:=Ty.dec_toD U _ x1 hdec;have hdlt:d<(U.enc .own (xs.getD a U.dflt)).length:=(Zs.1 hy).1;rw [Ty.enc_length] at hdlt;have hxa:∀(ha:a<xs.length),xs.getD a U.dflt=xs[a]:=fun ha=>by grind
      show RdP E'.w _ _ _ (.sl U.sz ((xs.set a x1).map U.toD));have hlen' :∀z∈(xs.set a x1).map U.toD,z.length=U.sz:=by
       intro z hz;obtain⟨y,_,rfl⟩:=Zk.1 hz
       grind [Ty.toD_length]
      rw [Zm] at hqt hcap;rw [Zm];refine eP (m3.trans q4) (by simp) hcap hlen' (by simp only [Z8];exact hqt) (fun o ho=> ?_) (fun i' j hi' hj=> ?_)
      ·simp only [Z8];refine⟨?_,hqt.1⟩
       grind
      ·have hi2:i' <xs.length:=by grind
       have hi3:i' <(xs.map U.toD).length:=by grind
       have e1:((xs.set a x1).map U.toD)[i']=U.toD ((xs.set a x1)[i']'(by grind)):=by grind
       have hjs:j<U.sz:=by grind
       obtain⟨hcell,_⟩:=hc i' j hi3 hjs;rw [Zc] at hcell;have hcs:cs[i' *U.sz+j]? =some (u i' j):=by grind [World.cell?]
       refine⟨u i' j,hcs,?_⟩;have hj2:j<((xs.map U.toD)[i']'hi3).length:=by grind
       have hkk:=hk i' j hi3 hj2;by_cases hit:(i',j)=(a,d)
       ·injection hit with hit1 hit2;subst hit1 hit2;have hyd:((xs.map U.toD)[i']'hi3)[j]=y.toD:=by
         grind [Ty.enc_toD]
        have hyd' :((xs.set i' x1).map U.toD)[i'][j]=y'.toD:=by
         grind
        rw [hyd]  at hkk;rw [hyd'];have:=(ih (p0++ [(i',j)]) y y' (u i' j) (by grind) hy' (by simp_all)).2
        simp_all
       ·have ed:((xs.set a x1).map U.toD)[i'][j]? =((xs.map U.toD)[i']'hi3)[j]? :=by
         rw [e1,Yx];by_cases hii:i' =a
         ·subst hii;have hjd:j≠d:=fun e=>hit (by rw [e])
          grind [Ty.enc_toD]
         grind
        have ed2:((xs.set a x1).map U.toD)[i'][j]=((xs.map U.toD)[i']'hi3)[j]:=by
         grind
        rw [ed2];refine fE (E:=E) (k:= .k k) (k' := .k k) (c:=c) (c' :=c) (p0:=p0++ [(i',j)]) (g:=fun q=>p0++(i',j)::q) (fun q=> ?_) ?_
        ·have:=xP (p0:=p0) (p:=p) hit q i off vs.length;rw [<-hP] at this;rw [Z5,List.singleton_append];exact M.moves this.1 this.2
        simp_all
     grind
    grind
   grind
  |_=>simp only [cY] at hn;cases hn
end
theorem RdP.topq{w:World}{ok:List (Nat×Nat)->Nat->Nat->Prop}{q:List (Nat×Nat)->Value->Nat->Prop}{v:Value}{d:D}(h:RdP w ok q v d):
 RdP w ok (fun p v' sz=>q p v' sz/\(p=[]->v' =v)) v d:=by
 cases h with
 |int k n=>grind [int]
 |bool b=>grind [bool]
 |str s=>grind [str]
 |nil a cap sz h=>grind [nil]
 |sl b off n cap sz rows u hn hcap hr h0 h1 h2=>
  exact .sl b off n cap sz rows u hn hcap hr ⟨h0,fun _=>rfl⟩ h1 fun i j hi hj=>(h2 i j hi hj).mono (fun _ _ _ ho=>⟨rfl,ho⟩) (fun p v sz hq=>⟨hq,fun e=>absurd e (List.cons_ne_nil _ _)⟩)
section
variable {C:Ctx} {σ:St} {a:Act} {E:Env} {u u' u'' :Ups} {tt:TT} {o:Oper} {md:Md} {v:AV} {ob:List Prop} {ty:TypeId}
theorem pS{E' :Env}(hi:Inv C (St.get (u++σ)) a.tmps E){k c i off b:Nat}{p:List (Nat×Nat)}{T:Ty}{g:Bool}{cs vs:List CV}{ws:List Value}{x x' :CV}
 (hg:St.get (u++σ) k= .v g cs) (hc:cs[c]? =some x) (hmx:x.mutable=true) (hn:cY x p (eQ T i off vs)=some x')
 (M:MutSet E E' k c p b i off T vs ws) (st:Step E E' (dkM k c) (fun _=>False) True)
 (hos:E'.w.os=E.w.os) (htp:E'.w.tape=E.w.tape) (hou:E'.w.output=E.w.output) (hsz:E.w.heap.size<=E'.w.heap.size)
 (hold:∀b,b<C.B->C.ow0 b=none->E'.w.heap[b]? =E.w.heap[b]? /\E'.hw b=E.hw b/\E'.ow b=none)
 (hnew:∀b,E'.w.heap.size<=b->E'.ow b=none/\E'.hw b=0) (hinj:∀b b' l,E'.ow b=some l->E'.ow b' =some l->b=b')
 (hbhw:∀b s,E'.ow b=some (.box s)->E'.hw b=0) (hbxE:∀s,E'.bx s=E.bx s):
 Inv C (St.get (((aC,.none)::(k,.v g ((cs.map (CV.stale [k] false)).set c x'))::u)++σ)) a.tmps E' :=by
 have hdr:E'.hdr=E.hdr:=st.hdr
 have key:∀(bxs' :Nat->Prop) (vals:List Value),(∀s,aA (St.get (u++σ)) s->bxs' s/\E'.bx s=E.bx s)->VRs E (aA (St.get (u++σ))) (.k k) 0 cs vals->
  VRs E' bxs' (.k k) 0 (((cs.map (CV.stale [k] false)).set c x').map (CV.stale [aC] true)) vals:=by
  intro bxs' vals hbx h;have hvl:=bB h;refine cH (by grind) fun j z y hz hy=> ?_;rw [Ze,Zi] at hz;obtain⟨z0,hz,rfl⟩:=hz;by_cases hj:j=c
  ·subst hj;have hjl:j<cs.length:=(Zs.1 hc).1;rw [YK (by grind)] at hz;cases hz;have hvx:=bH h hc hy;rw [Zc] at hvx ⊢;cases x with
   |sl fl U xs=>
    have hfl:fl= .own\/∃n,fl= .lnt n:=by cases fl <;>simp [CV.mutable] at hmx ⊢
    have hrd:RdP E.w (fun q=>okF E (.k k) j .own ([]++q)) (fun q=>qF E (.k k) j .own ([]++q)) y (CV.sl fl U xs).toD:=by
     rcases hfl with rfl|⟨n,rfl⟩
     ·exact hvx
     ·exact RdP.mono hvx (fun q b o ho=>⟨rfl,ho⟩) (fun q v sz ht=>ht.1)
    obtain⟨⟨fl',U',xs1,xs',e1,rfl,e3⟩,hrd'⟩:=xF M p [] _ x' y (by simp) hn hrd;cases e1;rcases hfl with rfl|⟨n,rfl⟩
    ·exact hrd'
    ·have hq:y=E.hdr n:=(RdP.top hvx).2 rfl;refine RdP.mono hrd'.topq (fun q b o ho=>⟨rfl,ho⟩) (fun q v sz ht=>⟨ht.1,fun hq0=> ?_⟩)
     grind
   |_=>simp [CV.mutable] at hmx
  ·rw [Y5 (Yn hj),Ze,Zi] at hz;obtain⟨z1,hz,rfl⟩:=hz;have hvz:=bH h hz hy;rw [CV.stale_stale (s:=[aC,k]) (m:=true) z1 (fun q=>by grind) rfl];refine CW.vr st hbx (CW.stale (fun _ hd=> ?_) (fun k' c' hd=> ?_) (fun _=>rfl)) hvz
   ·rcases hd with ⟨_,hd⟩|hd
    all_goals grind
   ·rcases hd with ⟨hd,_⟩|hd
    all_goals grind
 have hG:∀q,St.get (((aC,.none)::(k,.v g ((cs.map (CV.stale [k] false)).set c x'))::u)++σ) q=
  if aC=q then .none else if k=q then .v g (((cs.map (CV.stale [k] false)).set c x').map (CV.stale [aC] true)) else((St.get (u++σ) q).mapC (CV.stale [aC,k] true)):=by
  intro q;show St.get ((aC,_)::((k,_)::(u++σ))) q=_;rw [St.get_cons];split
  ·rfl
  ·rw [St.get_cons];split
   ·rfl
   ·rw [AV.mapC_comp]
    congr 1
    funext z
    exact CV.stale_stale z (fun q=>by grind) (by simp)
 have hbx:∀s,aA (St.get (u++σ)) s->aA (St.get (((aC,.none)::(k,.v g ((cs.map (CV.stale [k] false)).set c x'))::u)++σ)) s/\E'.bx s=E.bx s:=by
  intro s hs;refine⟨?_,hbxE s⟩;obtain⟨ys,hys⟩:=hs;unfold aA;rw [hG];rw [Za (by grind [aC])];split
  ·grind
  ·rw [hys];exact⟨_,rfl⟩
 have cw:∀(pl:Pl) (j:Nat) (z:CV),(∀k' ,pl= .k k' ->k' ≠k)->(∀h,pl≠ .h h)->CW (dkM k c) True pl j (z.stale [aC,k] true) z:=by
  intro pl j z h1 h2;refine CW.stale (fun _ hd=> ?_) (fun k' c' hd=> ?_) (fun _=>rfl)
  ·rcases hd with ⟨hd,_⟩|hd
   all_goals grind
  ·rcases hd with ⟨hd,_⟩|hd
   all_goals grind
 refine hi.step st hos htp hou hsz hold hnew hinj hbhw rfl hbx (fun t=> ?_) (fun s cs2 hs=> ?_)
 ·rw [hG];by_cases hm:aC=2*t
  ·rw [Zt hm];exact .inl trivial
  ·rw [Za hm];by_cases hk:k=2*t
   ·rw [Zt hk];refine .inl ?_;have ht:=hi.tmp t;rw [<-hk,hg] at ht;rw [<-hk];cases g with
    |true=>
     obtain⟨vv,e,hvv⟩:=ht;exact⟨vv,e,key _ _ hbx hvv⟩
    |false=>exact key _ _ hbx ht
   grind [AWk.map]
 ·rw [hG,Za (by grind)] at hs;by_cases hk:k=2*s+1
  ·rw [Zt hk] at hs;injection hs with hs1 hs2;subst hs1;have hbr:=hi.box s cs (by grind);obtain⟨r1,vals,ety,r2,r3⟩:=hbr;obtain⟨q1,q2,q3⟩:=st.box s r1 id;refine .inl ⟨by grind,vals,ety,by grind,?_⟩
   grind
  ·rw [Za hk] at hs;cases hq:St.get (u++σ) (2*s+1) with
   |v g' cs0=>
    rw [hq] at hs;injection hs with hs1 hs2
    grind [CWs.map]
   |tup xs=>rw [hq] at hs;cases hs
   |none=>rw [hq] at hs;cases hs
theorem xA{w:World}(hi:Inv C (St.get (u++σ)) a.tmps E)(hw:E.w=w){k c i off b:Nat}{p:List (Nat×Nat)}{T:Ty}{g gv:Bool}{cs vs:List CV}{x x' :CV}{val:Value}
 (hg:St.get (u++σ) k= .v g cs) (hc:cs[c]? =some x) (hmx:x.mutable=true) (hn:cY x p (eQ T i off vs)=some x')
 (hv:VR1 E (aA (St.get (u++σ))) (.h 0) 0 gv vs val) (hob:E.ow b=some (.arr (.k k) c p)) (hhi:(i+1)*T.sz<=E.hw b) (hfz:∀o,o<E.hw b->E.w.frozen? ⟨b,o,none⟩=false)
 (hcell:∀j,j<T.sz->(E.w.cell? ⟨b,i*T.sz+j,none⟩).isSome=true) (hlen:off+vs.length<=T.sz):
 ∃w',(storeCells ⟨b,i*T.sz+off,none⟩ val.cells.toList 0).run C.P w= .ok () w' /\val.cells.size=vs.length/\
  Hand C (((aC,.none)::(k,.v g ((cs.map (CV.stale [k] false)).set c x'))::u)++σ) a.tmps w' 0 .none undef:=by
 subst hw;have hvs:=jJ hv;generalize hws:val.cells.toList=ws at hvs;have hlenv:=bB hvs;have hone:∀z∈ws,z.oneCell' =true:=by
  intro z hz;obtain⟨j,hj,rfl⟩:=List.mem_iff_getElem.1 hz;exact(bH hvs (Zv (by omega:j<vs.length)) (Zv hj)).one
 have hb2:i*T.sz+T.sz<=E.hw b:=by grind
 have run:=run_storeCells_cells (P:=C.P) b (i*T.sz+off) ws 0 E.w (fun j hj=>by
  grind) (fun j hj=>hfz _ (by omega)) hone
 rw [Nat.add_zero] at run;refine⟨_,run,by grind,?_⟩;obtain⟨hcs,hty,hfr,hh⟩:∃cs ty fr,E.w.heap[b]? =some (.cells cs ty fr):=by
  grind [Ty.sz_pos,World.cell?]
 obtain⟨cs',d1,d2,d3⟩:=dQ b ws (i*T.sz+off) E.w hh;have hr:=wY k c p i off vs.length;generalize hE:({ w:=E.w.setCells b (i*T.sz+off) ws,hw:=E.hw,ow:=fun b' =>(E.ow b').bind (dK k c p i off vs.length),bx:=E.bx,hdr:=E.hdr }:Env)=E';have E'w:E'.w=E.w.setCells b (i*T.sz+off) ws:=by grind
 have E'ow:∀b',E'.ow b' =(E.ow b').bind (dK k c p i off vs.length):=by rw [<-hE];grind
 have E'hw:∀b',E'.hw b' =E.hw b' :=by rw [<-hE];grind
 have same:∀b',b' ≠b->E'.w.heap[b']? =E.w.heap[b']? :=fun b' h=>by grind [d8]
 have st:Step E E' (dkM k c) (fun _=>False) True:= {
  ro:=fun b' hb' =>by
   have hne:b' ≠b:=by grind
   exact⟨fun _=>by grind,fun o ho=>⟨bD (same b' hne) o,by grind⟩⟩
  own:=fun b' k' c' q hb' hd=>by
   have hne:b' ≠b:=by rintro rfl;rw [hob] at hb';cases hb';exact hd (.inl ⟨rfl,rfl⟩)
   exact⟨by rw [E'ow,hb'];exact hr.id _ _ _ hd,E'hw b',same b' hne⟩
  bor:=fun h=>absurd trivial h
  box:=fun s hs _=>by
   have hne:E.bx s≠b:=by grind
   exact⟨by rw [<-hE],by rw [E'ow,hs];rfl,same _ hne⟩
  hdr:=by grind }
 have M:MutSet E E' k c p b i off T vs ws:=
  .of hob hi.inj E'ow E'hw same ⟨hcs,cs',hty,hfr,hh,by grind,d2,d3⟩ hvs hhi
 obtain⟨o1,o2,o3⟩:=dR b ws (i*T.sz+off) E.w;refine⟨E',E'w,pS hi hg hc hmx hn M st (by grind) (by grind) (by grind) (by grind [dM]) (fun b' hlt h0=> ?_) (fun b' hlt=> ?_) (fun b1 b2 l g1 g2=> ?_) (fun b' s h=> ?_) (fun s=>by rw [<-hE]),trivial⟩
 ·have h2:=(hi.old b' hlt h0).2.2
  grind
 ·rw [E'w,dM] at hlt;have:=hi.new b' hlt
  grind
 ·rw [E'ow,Zq] at g1 g2;obtain⟨l1,a1,c1⟩:=g1;obtain⟨l2,a2,c2⟩:=g2;have:=hr.inj _ _ _ c1 c2;subst this;exact hi.inj _ _ _ a1 a2
 ·rw [E'ow,Zq] at h;obtain⟨l,a1,c1⟩:=h;rw [E'hw];cases l with
  |box s2=>rw [hr.box] at c1;cases c1;exact hi.boxhw b' _ a1
  |arr k c p=>exact absurd c1 (hr.arr k c p s)
end
theorem oX{T:Ty}(hf:T.flat=true)(x:T.den):∀d∈T.toD x,∀sz rows,d≠ .sl sz rows:=by
 cases T <;>first |(cases hf;done) |(intro d hd sz rows e;subst e;simp [Ty.toD] at hd)
theorem RdP.scalar{w:World}{ok:List (Nat×Nat)->Nat->Nat->Prop}{q:List (Nat×Nat)->Value->Nat->Prop}{v:Value}{d:D}(h:RdP w ok q v d)(hd:∀sz rows,d≠ .sl sz rows)
 (w' :World) (ok' :List (Nat×Nat)->Nat->Nat->Prop) (q' :List (Nat×Nat)->Value->Nat->Prop):RdP w' ok' q' v d:=by
 cases h with
 |int k n=>grind [int]
 |bool b=>grind [bool]
 |str s=>grind [str]
 |nil a cap sz hq=>grind
 |sl b off n cap sz rows=>grind
structure Scr (E E' :Env):Prop where
 ow:E'.ow=E.ow
 hw:E'.hw=E.hw
 bx:E'.bx=E.bx
 hdr:E'.hdr=E.hdr
 cell:∀b o,o<E.hw b->E'.w.cell? ⟨b,o,none⟩=E.w.cell? ⟨b,o,none⟩
 frz:∀b o,E'.w.frozen? ⟨b,o,none⟩=E.w.frozen? ⟨b,o,none⟩
 obj:∀(b:Nat) (cs:Array Value) (ty:TypeId) (fr:Nat×Nat),E.w.heap[b]? =some (.cells cs ty fr)->∃cs',E'.w.heap[b]? =some (.cells cs' ty fr)/\cs'.size=cs.size
 same:∀b,(∀k c p,E.ow b≠some (.arr k c p))->E'.w.heap[b]? =E.w.heap[b]?
 os:E'.w.os=E.w.os
 tape:E'.w.tape=E.w.tape
 output:E'.w.output=E.w.output
 size:E'.w.heap.size=E.w.heap.size
theorem Scr.refl(E:Env):Scr E E:=⟨rfl,rfl,rfl,rfl,fun _ _ _=>rfl,fun _ _=>rfl,fun _ cs _ _ h=>⟨cs,h,rfl⟩,fun _ _=>rfl,rfl,rfl,rfl,rfl⟩
section
variable {C:Ctx} {σ:St} {a:Act} {E E' :Env} {u u' u'' :Ups} {tt:TT} {bxs:Nat->Prop}
theorem Tip.scr(h:Scr E E'){l:Own}{v:Value}{sz:Nat}(ht:Tip E l v sz):Tip E' l v sz:=by
 unfold Tip at ht ⊢;split at ht
 ·obtain⟨h1,h2,h3,cs,ty,lo,hi,h4,h5,h6⟩:=ht;obtain⟨cs',g1,g2⟩:=h.obj _ _ _ _ h4;exact⟨by rw [h.ow];grind,by rw [h.hw];grind,h3,cs',ty,lo,hi,g1,by grind,h6⟩
 all_goals grind
theorem okF.scr(h:Scr E E'){k:Pl}{c:Nat}{f:Fl}{p:List (Nat×Nat)}{b o:Nat}(ho:okF E k c f p b o):o<E.hw b/\okF E' k c f p b o:=by
 cases f <;>simp only [okF,h.hw,h.ow] at ho ⊢ <;>first |grind|grind
theorem qF.scr(h:Scr E E'){k:Pl}{c:Nat}{f:Fl}{p:List (Nat×Nat)}{v:Value}{sz:Nat}(hq:qF E k c f p v sz):qF E' k c f p v sz:=by
 cases f with
 |own=>exact Tip.scr h hq
 |lnt n=>exact⟨Tip.scr h hq.1,by rw [h.hdr];exact hq.2⟩
 |tip=>exact fun hp=>Tip.scr h (hq hp)
 |al k' c' p' =>exact Tip.scr h hq
 |ro=>trivial
 |bor=>trivial
theorem RdP.scr(h:Scr E E'){k:Pl}{c:Nat}{f:Fl}{g:List (Nat×Nat)->List (Nat×Nat)}{v:Value}{d:D}(hr:RdP E.w (fun p=>okF E k c f (g p)) (fun p=>qF E k c f (g p)) v d):
 RdP E'.w (fun p=>okF E' k c f (g p)) (fun p=>qF E' k c f (g p)) v d:=
 hr.mono (fun p b o ho=>⟨h.cell b o (okF.scr h ho).1,(okF.scr h ho).2⟩) (fun p v sz hq=>qF.scr h hq)
theorem VRc.scr(h:Scr E E'){k:Pl}{c:Nat}{x:CV}{v:Value}(hx:∀k' c' p T xs,x≠ .apd k' c' p T xs)(hv:VRc E bxs k c x v):VRc E' bxs k c x v:=by
 cases x with
 |int kd n=>exact hv
 |bool b=>exact hv
 |str s=>exact hv
 |val u=>exact hv
 |undef=>exact hv
 |ptr s off=>exact⟨by rw [h.bx];exact hv.1,hv.2⟩
 |clo k ss=>exact⟨by rw [h.bx];exact hv.1,hv.2⟩
 |swp sf n h0 s=>exact⟨hv.1,fun ad l cap he=>by rw [h.hdr] at he ⊢;exact hv.2 ad l cap he⟩
 |sl f T xs=>exact RdP.scr (g:=id) h hv
 |apd k' c' p T xs=>grind
 |eptr f T x off=>
  obtain⟨hf,b,o,e,u,hu⟩:=hv;refine⟨hf,b,o,e,u,fun j hj=> ?_⟩;obtain⟨g1,g2,g3⟩:=hu j hj;have g4:=okF.scr h g2;exact⟨(h.cell _ _ g4.1).trans g1,g4.2,RdP.scr (g:=fun p=>(0,j)::p) h g3⟩
 |eref k' c' p i T x off=>
  obtain⟨b,e,e1,e2,u,hu⟩:=hv;refine⟨b,e,by rw [h.ow];grind,by rw [h.hw];exact⟨e2.1,fun o ho=>by rw [h.frz];grind⟩,u,fun j hj=> ?_⟩;obtain⟨g1,g2⟩:=hu j hj;refine⟨(h.cell _ _ ?_).trans g1,RdP.scr (g:=fun q=>(i,j)::q) h g2⟩
  grind [Ty.toD_length]
theorem mF(q:Nat):St.get ((aC,AV.none)::(u++σ)) q=if aC=q then .none else(St.get (u++σ) q).mapC (CV.stale [aC] true):=by
 rw [St.get_cons]
 rfl
theorem q8(h:Scr E E'){k:Pl}{c:Nat}{x:CV}{v:Value}(hv:VRc E bxs k c x v):VRc E' bxs k c (x.stale [aC] true) v:=by
 rcases CV.stale_eq (s:=[aC]) (m:=true) x with e|⟨e,_,e2⟩
 ·rw [e];exact hv.one
 grind [VRc.scr,CV.isBor]
theorem Inv.scr(hi:Inv C (St.get (u++σ)) a.tmps E)(h:Scr E E'):Inv C (St.get (((aC,.none)::u)++σ)) a.tmps E' :=by
 have hbx:∀s,aA (St.get (u++σ)) s->aA (St.get (((aC,.none)::u)++σ)) s:=by
  rintro s ⟨ys,hys⟩;unfold aA;rw [jO,mF,Za (by grind [aC]),hys];exact⟨_,rfl⟩
 have hb:∀ {pl:Pl} {j:Nat} {x:CV} {v:Value},VRc E' (aA (St.get (u++σ))) pl j x v->VRc E' (aA (St.get (((aC,.none)::u)++σ))) pl j x v:=fun hv=>by
  rename_i pl j x v;cases x with
  |ptr s off=>exact⟨hv.1,hbx s hv.2⟩
  |clo k ss=>exact⟨hv.1,fun s hs=>hbx s (hv.2 s hs)⟩
  |_=>exact hv
 refine { os:=h.os.trans hi.os,base:=hi.base,ext:=fun s b he=>⟨hbx s (hi.ext s b he).1,by rw [h.bx];exact(hi.ext s b he).2⟩,tape:=h.tape.trans hi.tape,output:=h.output.trans hi.output,size:=by rw [h.size];exact hi.size,hdr:=h.hdr.trans hi.hdr,old:=fun b hlt h0=> ?_,new:=fun b hlt=> ?_,inj:=by rw [h.ow];exact hi.inj,boxhw:=by rw [h.ow,h.hw];exact hi.boxhw,nt:=hi.nt,tmp:=fun t=> ?_,box:=fun s cs' hs=> ?_ }
 ·obtain⟨a1,a2,a3⟩:=hi.old b hlt h0;exact⟨(h.same b (by grind)).trans a1,by rw [h.hw];grind,by rw [h.ow];grind⟩
 ·rw [h.size] at hlt;rw [h.ow,h.hw];exact hi.new b hlt
 ·rw [jO,mF];split
  ·trivial
  ·exact VR.imp (fun j x v _ hv=>hb (q8 h hv)) (hi.tmp t)
 ·rw [jO,mF,Za (by grind)] at hs;cases hq:St.get (u++σ) (2*s+1) with
  |v g cs0=>
   rw [hq] at hs;injection hs with hs1 hs2;subst hs1 hs2;obtain⟨h1,vals,ty,h2,h3⟩:=hi.box s cs0 hq;refine⟨by rw [h.ow,h.bx];grind,vals,ty,?_,VRs.imp (fun j x v _ hv=>hb (q8 h hv)) h3⟩;rw [h.bx,h.same _ (by grind)]
   grind
  |tup xs=>rw [hq] at hs;cases hs
  |none=>rw [hq] at hs;cases hs
theorem yW{b:Nat}{l:Own}(hb:E.ow b=some l)(hl:∃k c p,l= .arr k c p){cs:Array Value}{ty:TypeId}{fr:Nat×Nat}(hh:E.w.heap[b]? =some (.cells cs ty fr)){vs:List Value}{o:Nat}(ho:E.hw b<=o):
 Scr E { E with w:=E.w.setCells b o vs }:=by
 obtain⟨cs',c1,c2,c3⟩:=dQ b vs o E.w hh;obtain⟨o1,o2,o3⟩:=dR b vs o E.w;refine⟨rfl,rfl,rfl,rfl,fun b' o' h=> ?_,fun b' o' => ?_,fun b' cs0 ty0 fr0 h=> ?_,fun b' h=> ?_,o1,o2,o3,dM b vs o E.w⟩
 all_goals grind [World.cell?,d8,World.frozen?]
theorem sM{w:World}(hi:Inv C (St.get (u++σ)) a.tmps E)(hw:E.w=w){t0 t1 e:TypeId}{te:TypeInfo}{z:Value}{T:Ty}(ht:C.P.underlying t0=some (.slice e))
 (hd:(∃e',C.P.underlying t1=some (.slice e'))\/C.P.underlying t1=some .string) (hte:C.P.info? e=some te) (hsz:te.size=T.sz) (hby:te.bytes<=256) (hz:te.zero=some z)
 (hzc:z.cells.size=T.sz) (hfl:T.flat=true) {xs ys:List T.den} {k c:Nat} {p:List (Nat×Nat)}
 {v0 x:Value} (hv0:VRc E (aA (St.get (u++σ))) (.h 0) 0 (.sl (.al k c p) T xs) v0) {news:List Value} (hs:SrcRun C.P w T.sz ys.length news x)
 (hnew:∀i j (hi:i<ys.length) (hj:j<(T.toD ys[i]).length),∃u,news[i*T.sz+j]? =some u/\∀w' ok q,RdP w' ok q u (T.toD ys[i])[j])
 (hL:xs.length+ys.length<=Lim) (ty:TypeId):
 ∃val w',(Builtin.append_ #[t0,t1] ty #[v0,x]).run C.P w= .ok val w' /\Hand C (((aC,.none)::u)++σ) a.tmps w' 0 (.v false [.apd k c p T (xs++ys)]) val:=by
 subst hw;have hp:=Ty.sz_pos T;have hv0:RdP E.w (okF E (.h 0) 0 (.al k c p)) (qF E (.h 0) 0 (.al k c p)) v0 (.sl T.sz (xs.map T.toD)):=hv0;obtain⟨olds,ho,hoc,hok⟩:=iQ (P:=C.P) hv0 hp;obtain⟨ad,cap,rfl,hcap⟩:=hv0.shape;rw [Zm] at ho hcap;have hq:Tip E (.arr (.k k) c (p++ [])) (.slice ad (xs.map T.toD).length cap) T.sz:=hv0.top;rw [Zm,Z8] at hq;rw [Zm];have hold:∀i j (hi:i<xs.length) (hj:j<(T.toD xs[i]).length),∃u,olds[i*T.sz+j]? =some u/\∀w' ok q,RdP w' ok q u (T.toD xs[i])[j]:=by
  intro i j hi hj;obtain⟨u,h1,h2⟩:=hok i j (by grind) (by grind);refine⟨u,h1,fun w' ok q=> ?_⟩;have h3:=h2.scalar (fun sz rows=>oX hfl xs[i] _ (by simp) sz rows) w' ok q
  grind
 have hnl:=hs.length;have hol:=ho.length;have hlt:∀(n i j:Nat),i<n->j<T.sz->i*T.sz+j<n*T.sz:=by
  intro n i j hi hj
  calc i*T.sz+j<i*T.sz+T.sz:=by omega
   _=(i+1)*T.sz:=by grind
   _<=n*T.sz:=Z1 _ hi
 by_cases hroom:xs.length+ys.length<=cap
 ·match ad,hq with
  |none,hq=>
   obtain⟨h0,rfl⟩:xs.length=0/\cap=0:=hq;have hx:xs=[]:=Z3.1 h0;have hy:ys=[]:=Z3.1 (by omega);subst hx hy;exact⟨_,_,qW ht hd hte (by rw [hsz];exact hs),E,rfl,Inv.scr hi (Scr.refl E),⟨hfl,.inr (RdP.nil none 0 T.sz ⟨rfl,rfl⟩)⟩,trivial⟩
  |some ⟨b,off,sp⟩,hq=>
   match off,sp,hq with
   |_+1,_,hq=>exact hq.elim
   |0,some _,hq=>exact hq.elim
   |0,none,hq=>
    obtain⟨q1,q2,q3,cs,cty,lo,hi',q4,q5,q6⟩:=hq;have hin:∀j,j<news.length->xs.length*T.sz+j<cap*T.sz:=by
     intro j hj;have:(xs.length+ys.length)*T.sz<=cap*T.sz:=Z1 _ hroom
     grind
    have run:=qX (ty:=ty) ht hd hte (by rw [hsz];exact hs) (b:=b) hroom (fun j hj=>by
     grind [World.cell?]) (fun j hj=>by
     grind [World.frozen?])
    rw [hsz] at run;have scr:=yW (vs:=news) (o:=xs.length*T.sz) q1 ⟨_,_,_,rfl⟩ q4 (by omega);obtain⟨cs',c1,c2,c3⟩:=dQ b news (xs.length*T.sz) E.w q4;refine⟨_,_,run,_,rfl,Inv.scr hi scr,⟨hfl,.inl ⟨b,cap,by grind,q1,by grind,?_,cs',cty,lo,hi',c1,by grind,q6,fun i j hi hj=> ?_⟩⟩,trivial⟩
    ·show E.hw b<=_;rw [q2,jA]
     grind
    ·have hjs:j<T.sz:=by grind [Ty.toD_length]
     by_cases hix:i<xs.length
     ·have e:(xs++ys)[i]=xs[i]:=List.getElem_append_left hix;obtain⟨u1,g1,g2⟩:=hold i j hix (by grind);refine⟨u1,?_,fun w' ok q=>by grind⟩;have hk:=hlt xs.length i j hix hjs;rw [c3,Za (by omega)];have:=hoc b 0 xs.length cap (by grind) _ _ g1;rw [Zc] at this;simpa [World.cell?,q4] using this
     ·have hiy:i - xs.length<ys.length:=by grind
      have e:(xs++ys)[i]=ys[i - xs.length]:=List.getElem_append_right (by omega);obtain⟨u1,g1,g2⟩:=hnew (i - xs.length) j hiy (by grind);refine⟨u1,?_,fun w' ok q=>by grind⟩;have hk:(i - xs.length)*T.sz+j<news.length:=(Zs.1 g1).1;have:=hin _ hk;have hm:i*T.sz=xs.length*T.sz+(i - xs.length)*T.sz:=by rw [<-Yt];grind
      rw [hm,ZA,c3,Zt ⟨YW _ _,by omega,by omega⟩,Yu]
      grind
 ·have hcapge:=grownCap_ge E.w (xs.length+ys.length) cap e;have run:=qV (ty:=ty) ht hd hte hz (by rw [hsz];exact hs) (s:=ad) (n:=xs.length) (cap:=cap) (olds:=olds) (by grind) (by omega) hL hby;generalize hgc:grownCap E.w (xs.length+ys.length) cap e=gc at*;have hg:=Grown.drew E.w (olds++news++(Builtin.zeroCells z.cells (gc - (xs.length+ys.length))).toList).toArray e;have hsrc:=nS xs.length;obtain⟨st,hi2⟩:=mH hi hg (i6 (kp:=false) (nest:=false) hsrc) jQ (lD hsrc) ((xs.length+ys.length)*T.sz);have hn:=hi.new E.w.heap.size (Zn _);refine⟨_,_,run,_,rfl,Inv.scr hi2 (Scr.refl _),⟨hfl,.inr ?_⟩,trivial⟩;have hcsz:(olds++news++(Builtin.zeroCells z.cells (gc - (xs.length+ys.length))).toList).toArray.size=gc*T.sz:=by
   have e1:∀k,(Builtin.zeroCells z.cells k).toList.length=k*T.sz:=by
    grind [size_zeroCells]
   rw [List.size_toArray,jA,jA,e1,hol,hnl,<-Yt,<-Yt]
   grind
  refine lB (E:=E) (f:= .own) (g:= .own) (rf:= .own) (bxs:=fun _=>False) (kp:=false) (nest:=false) rfl (.inl ⟨hfl,rfl⟩) (fun b' hb hb2=> ?_) (by simp [Env.newArr]) (by simp [Env.newArr]) hg.new hcapge (hcsz.symm) (fr:=(0,0)) (fun o _ h=>absurd h (Ya o)) (fun i j hi hj=> ?_) (fun i j hi hj=> ?_)
  ·have hne:b' ≠E.w.heap.size:=by
    grind
   exact⟨by grind [Env.newArr],by grind [Env.newArr],hg.old b' hne⟩
  ·obtain⟨u1,g1,g2⟩:=hold i j hi hj
   grind
  ·obtain⟨u1,g1,g2⟩:=hnew i j hi hj;refine⟨u1,?_,g2 _ _ _⟩;have hk:i*T.sz+j<news.length:=(Zs.1 g1).1;rw [List.getElem?_toArray,Z5,Yt,ZA,ZS (by omega),hol,Yu,Z0 hk]
   grind
theorem sN{w:World}(htt:aP C.P tt)(hi:Inv C (St.get (u++σ)) a.tmps E)(hw:E.w=w){o:Oper}{c:Call}(ho:o.op= .call c)(hc:c.callee= .builtin .append){x y:Operand}{t0 t1:TypeId}
 (ha:c.args.toList=[x,y]) (hat:c.argTypes.toList=[t0,t1]) {i j:TI} (hti:tt.get t0=some i) (htj:tt.get t1=some j) {p q:CV} {u1 u2:Ups} {p0 q0:AV}
 (h1:Mr (opd tt .take t0 x) σ u=some (p0,u1)) (hp:p0= .v false [p]) (h2:Mr (opd tt .cp t1 y) σ u1=some (q0,u2)) (hq:q0= .v false [q]) (hfit:gO i j p q=true) {r:CV} {ob:List Prop}
 (hr:k9 p q=some (r,ob)) (hob:∀P∈ob,P):Good C (((aC,.none)::u2)++σ) a w o (.v false [r]):=by
 subst hp hq;obtain⟨E1,e1,e2,e3,e4,e5,e6⟩:=eI hi 0 h1;obtain⟨rfl,g⟩:=eH e4 h2;have f5:=(g (.h 1)).1;have hx:=e5.1;have hargs:c.args.map a.eval= #[a.eval x,a.eval y]:=by
  grind [Array.toList_map]
 have hats:c.argTypes= #[t0,t1]:=Yg hat;simp only [gO,Zu] at hfit;obtain⟨hf1,hf2⟩:=hfit;unfold k9 at hr;split at hr
 ·rename_i k c' pth T xs g' U ys;split at hr
  ·rename_i hUT;subst hUT;cases hfl:U.flat with
   |false=>grind
   |true=>
    rw [hfl] at hr;cases hr;obtain⟨e',T',he'⟩:=pE (i:=j) hf2;obtain⟨hu',_⟩:=(htt t1 j htj).elem e' T' he';obtain⟨news,s1,s2,s3⟩:=iQ (P:=C.P) (v:=a.eval y) f5 (Ty.sz_pos U);rw [Zm] at s1;have s4:∀i j (hi:i<ys.length) (hj:j<(U.toD ys[i]).length),∃u,news[i*U.sz+j]? =some u/\∀w' ok q,RdP w' ok q u (U.toD ys[i])[j]:=by
     intro i j hi hj;obtain⟨u,g1,g2⟩:=s3 i j (by grind) (by grind);refine⟨u,g1,fun w' ok q=> ?_⟩;have h3:=g2.scalar (fun sz rows=>oX hfl ys[i] _ (by simp) sz rows) w' ok q
     grind
    obtain⟨e,he⟩:=iC hf1;obtain⟨hu,te,zv,k1,k2,k3,k4,k5,k6⟩:=(htt t0 i hti).elem e U he;have hzc:zv.cells.size=U.sz:=by
     have:=kS k6
     grind [Ty.enc_length]
    obtain⟨val,w',hrun,hand⟩:=sM e4 rfl hu (.inl ⟨e',hu'⟩) k1 k2 k4 k5 hzc hfl hx s1 s4 (hob _ (by simp)) o.type;refine⟨val,w',?_,hand⟩;rw [oJ ho hc,hargs,hats,<-(show E1.w=w by grind),hrun]
    rfl
  grind
 grind
theorem wZ{w:World}(hi:Inv C (St.get (u++σ)) a.tmps E)(hw:E.w=w){k c i off b b' cap:Nat}{p:List (Nat×Nat)}{T U:Ty}{g:Bool}{cs:List CV}{xs:List U.den}{x x' :CV}{val:Value}
 (hg:St.get (u++σ) k= .v g cs) (hc:cs[c]? =some x) (hmx:x.mutable=true) (hn:cY x p (eQ T i off [.sl .own U xs])=some x') (hfl:U.flat=true)
 (hval:val.cells.toList=[.slice (some ⟨b',0,none⟩) xs.length cap]) (hat:kU E (.arr (.k k) c (p++ [(i,off)])) b' U xs cap)
 (hob:E.ow b=some (.arr (.k k) c p)) (hhi:(i+1)*T.sz<=E.hw b) (hfz:∀o,o<E.hw b->E.w.frozen? ⟨b,o,none⟩=false)
 (hcell:∀j,j<T.sz->(E.w.cell? ⟨b,i*T.sz+j,none⟩).isSome=true) (hlen:off+1<=T.sz):
 ∃w',(storeCells ⟨b,i*T.sz+off,none⟩ val.cells.toList 0).run C.P w= .ok () w' /\val.cells.size=1/\
  Hand C (((aC,.none)::(k,.v g ((cs.map (CV.stale [k] false)).set c x'))::u)++σ) a.tmps w' 0 .none undef:=by
 subst hw;rw [hval];generalize hws: [Value.slice (some ⟨b',0,none⟩) xs.length cap]=ws;have hwl:ws.length=1:=by grind
 obtain⟨t1,t2,t3,dcs,dty,dlo,dhi,t4,t5,t6,t7⟩:=hat;have hbb:b' ≠b:=by
  rintro rfl
  simp_all
 have hb2:i*T.sz+T.sz<=E.hw b:=by grind
 have run:=run_storeCells_cells (P:=C.P) b (i*T.sz+off) ws 0 E.w (fun j hj=>by
  grind) (fun j hj=>hfz _ (by omega)) (fun z hz=>by
  rw [<-hws,Zo] at hz;subst hz;rfl)
 rw [Nat.add_zero] at run;refine⟨_,run,by grind,?_⟩;obtain⟨hcs,hty,hfr,hh⟩:∃cs ty fr,E.w.heap[b]? =some (.cells cs ty fr):=by
  grind [World.cell?]
 obtain⟨cs',d1,d2,d3⟩:=dQ b ws (i*T.sz+off) E.w hh;obtain⟨o1,o2,o3⟩:=dR b ws (i*T.sz+off) E.w;have same:∀b0,b0≠b->(E.w.setCells b (i*T.sz+off) ws).heap[b0]? =E.w.heap[b0]? :=fun b0 h=>d8 b b0 h _ _ _;generalize hE:({ E with w:=E.w.setCells b (i*T.sz+off) ws,hw:=fun b0=>if b0=b' then xs.length*U.sz else E.hw b0 }:Env)=E';have E'w:E'.w=E.w.setCells b (i*T.sz+off) ws:=by grind
 have E'ow:E'.ow=E.ow:=by grind
 have E'hw:∀b0,b0≠b' ->E'.hw b0=E.hw b0:=fun b0 h=>by rw [<-hE];grind
 have E'hw1:E'.hw b' =xs.length*U.sz:=by rw [<-hE];grind
 have hE'b:E'.w.heap[b']? =some (.cells dcs dty (dlo,dhi)):=by grind
 have hit:cL p i off 1 (p++ [(i,off)])=true:=by
  have:=pD (p:=p) (i:=i) (off:=off) (m:=1) (c' :=0) (q:=[]) Nat.zero_lt_one
  grind
 have st:Step E E' (dkM k c) (fun _=>False) True:= {
  ro:=fun b0 hb0=>by
   grind [bD]
  own:=fun b0 k' c' q hb0 hd=>by
   have hne:b0≠b:=by rintro rfl;rw [hob] at hb0;cases hb0;exact hd (.inl ⟨rfl,rfl⟩)
   have hne' :b0≠b' :=by rintro rfl;rw [t1] at hb0;cases hb0;exact hd (.inl ⟨rfl,rfl⟩)
   grind
  bor:=fun h=>absurd trivial h
  box:=fun s hs _=>by
   have hne:E.bx s≠b:=by grind
   exact⟨by rw [<-hE],by grind,by grind⟩
  hdr:=by grind }
 have M:MutSet E E' k c p b i off T [.sl .own U xs] ws:= {
  hb:=hob
  inj:=hi.inj
  owb:=by grind
  hwb:=E'hw b (Yn hbb)
  moves:=fun {l} hl hh b0 hb0=>by
   grind
  cells:=⟨hcs,cs',hty,hfr,hh,by grind,d2,d3⟩
  len:=hwl.symm
  hi:=hhi
  fresh:=fun j y v hy hv hf=>by
   have hj:j=0:=by grind
   subst hj;simp only [List.getElem?_cons_zero,ZK] at hy;subst hy;rw [<-hws] at hv;simp only [List.getElem?_cons_zero,ZK] at hv;subst hv;have hl:E'.ow b' =some (.arr (.k k) c (p++ [(i,off)])):=by grind
   refine eP (ok:=fun q=>okF E' (.k k) c .own (p++(i,off+0)::q)) (q:=fun q=>qF E' (.k k) c .own (p++(i,off+0)::q)) (fr:=(dlo,dhi)) hE'b (by grind) t2 (fun r hr=> ?_) ?_ (fun o ho=>⟨by grind,hl⟩) (fun i0 j0 hi0 hj0=> ?_)
   ·grind [Ty.toD_length]
   ·exact⟨hl,E'hw1,t2,dcs,dty,dlo,dhi,hE'b,t5,t6⟩
   ·have hi1:i0<xs.length:=by grind
    obtain⟨u1,g1,g2⟩:=t7 i0 j0 hi1 (by grind)
    grind }
 refine⟨E',E'w,pS hi hg hc hmx hn M st (by grind) (by grind) (by grind) (by grind [dM]) (fun b0 hlt h0=> ?_) (fun b0 hlt=> ?_) (by rw [E'ow];exact hi.inj) (fun b0 s h=> ?_) (fun s=>by rw [<-hE]),trivial⟩
 ·have h2:=(hi.old b0 hlt h0).2.2
  grind
 ·rw [E'w,dM] at hlt;have:=hi.new b0 hlt
  grind
 ·rw [E'ow] at h;have hne' :b0≠b' :=by grind
  rw [E'hw _ hne'];exact hi.boxhw b0 s h
end
end Go.Ab
end
