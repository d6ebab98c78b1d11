/-
  A calculus of typed values over the loaded Go code: shapes, values, the predicate transformer.
-/
import Derived.Calls
import Derived.Laws.AppendOwn
import Derived.Below
import Derived.Laws.CopyRow
import Derived.Laws.Cells
import Derived.ChangeKeysEq
import Derived.Laws.StructEq
set_option linter.unusedVariables false
set_option linter.unusedSimpArgs false
namespace Go.V
open Go
inductive Sh where
 |int (k:IntKind)|bool|str|unit
 |pair (a b:Sh)
 |sl (e:TypeId) (a:Sh)
 |ptr (a:Sh)
 |fn (f:FuncId) (c:Sh)
 |tok (a b:Sh)
 |md (a:Sh)
 deriving DecidableEq
def Sh.den:Sh→Type
 |.int _=>Int
 |.bool=>Bool
 |.str=>List UInt8
 |.unit=>Unit
 |.pair a b=>a.den×b.den
 |.sl _ a=>List a.den
 |.ptr a=>a.den
 |.fn _ c=>c.den
 |.tok a b=>(List Value×List Nat)×(a.den×b.den)
 |.md a=>Bool×a.den
def leafs:Sh→Bool
 |.unit=>true
 |.pair (.int _) b=>leafs b
 |.pair .bool b=>leafs b
 |.pair .str b=>leafs b
 |_=>false
def leafS:Sh→Bool
 |.pair a b=>leafs (.pair a b)
 |_=>false
def eqD:(s:Sh)→s.den→s.den→Bool
 |.int _,x,y=>(show Int from x) == (show Int from y)
 |.bool,x,y=>(show Bool from x) == (show Bool from y)
 |.str,x,y=>(show List UInt8 from x) == (show List UInt8 from y)
 |.unit,_,_=>true
 |.pair a b,x,y=>eqD a x.1 y.1&&eqD b x.2 y.2
 |_,_,_=>false
def Sh.size:Sh→Nat
 |.unit=>0
 |.pair a b=>a.size+b.size
 |.tok a b=>a.size+b.size
 |.md a=>a.size
 |_=>1
def zcells:Sh→List Value
 |.int k=>[.int k 0]
 |.bool=>[.bool false]
 |.str=>[.string ⟨#[]⟩]
 |.unit=>[]
 |.pair a b=>zcells a++zcells b
 |.tok a b=>zcells a++zcells b
 |.sl _ _=>[.slice none 0 0]
 |.md a=>zcells a
 |.ptr _=>[.pointer none]
 |.fn _ _=>[.nilFunc]
def Sh.zv:(s:Sh)→s.den
 |.int _=>(0:Int)
 |.bool=>false
 |.str=>([]:List UInt8)
 |.unit=>()
 |.pair a b=>(a.zv,b.zv)
 |.sl _ a=>([]:List a.den)
 |.ptr a=>a.zv
 |.fn _ c=>c.zv
 |.tok a b=>((zcells a++zcells b,[]),(a.zv,b.zv))
 |.md a=>(true,a.zv)
inductive O where
 |z|dead
 |own (a:O)
 |pr (a b:O)
 deriving DecidableEq
abbrev TV:=(s:Sh)×s.den
inductive Step where
 |f|s|i (n:Nat)
inductive Val where
 |t (s:Sh) (o:O) (x:s.den)
 |own (key:Nat) (p:List Step)
 |pair (a b:Val)
 |tup (a b:Val)
 |tnil
 |baddr (key:Nat) (p:List Step)
 |eaddr (key:Nat) (p:List Step) (i:Nat) (fp:List Step)
 |faddr (s:Sh) (x:s.den)
 |clo (f:FuncId) (c:Val)
 |vbox (v:Val)
 |sub (key:Nat) (p:List Step) (lo hi:Nat)
 |nils
 |undef
structure Root where
 box:Bool
 inn:Bool
 s:Sh
 o:O
 x:s.den
structure OV where
 s:Sh
 o:O
 x:s.den
structure St where
 tmps:List (Nat×Val)
 roots:List (Nat×Root)
def look {α:Type} (k:Nat):List (Nat×α)→Option α
 |[]=>none
 | (j,v)::l=>match Nat.beq j k with
   |true=>some v
   |false=>look k l
def upd {α:Type} (k:Nat) (v:α):List (Nat×α)→List (Nat×α)
 |[]=>[(k,v)]
 | (j,u)::l=>match Nat.beq j k with
   |true=>(k,v)::l
   |false=>(j,u)::upd k v l
def del {α:Type} (k:Nat):List (Nat×α)→List (Nat×α)
 |[]=>[]
 | (j,u)::l=>match Nat.beq j k with
   |true=>l
   |false=>(j,u)::del k l
def bcase (b:Bool) (x y:Prop):Prop:=match b with
 |true=>x
 |false=>y
abbrev M (α:Type):=(α→Prop)→Prop
def M.ret {α:Type} (a:α):M α:=fun K=>K a
def M.bind {α β:Type} (m:M α) (f:α→M β):M β:=fun K=>m fun a=>f a K
def M.fail {α:Type}:M α:=fun _=>False
def M.of {α:Type}:Option α→M α
 |some a=>.ret a
 |none=>.fail
def M.need (p:Prop):M Unit:=fun K=>p∧K ()
def M.branch (b:Bool):M Bool:=fun K=>bcase b (K true) (K false)
def shP:Sh→List Step→Option Sh
 |s,[]=>some s
 |.pair a _,.f::p=>shP a p
 |.pair _ b,.s::p=>shP b p
 |.sl _ a,.i _::p=>shP a p
 |_,_=>none
def oP:O→List Step→Option O
 |o,[]=>some o
 |.z,_::p=>oP .z p
 |.pr a _,.f::p=>oP a p
 |.pr _ b,.s::p=>oP b p
 |.own a,.i _::p=>oP a p
 |_,_=>none
def getP:(s:Sh)→s.den→List Step→Option TV
 |s,x,[]=>some ⟨s,x⟩
 |.pair a _,x,.f::p=>getP a x.1 p
 |.pair _ b,x,.s::p=>getP b x.2 p
 |.sl _ a,x,.i n::p=>getP a (List.getD x n a.zv) p
 |_,_,_=>none
def castD (s s':Sh) (y:s'.den):Option s.den:=
 match decEq s' s with
 |.isTrue h=>some (h ▸ y)
 |.isFalse _=>none
def setP:(s:Sh)→s.den→List Step→TV→Option s.den
 |s,_,[],⟨s',y⟩=>castD s s' y
 |.pair a _,x,.f::p,v=>(setP a x.1 p v).map fun y=>(y,x.2)
 |.pair _ b,x,.s::p,v=>(setP b x.2 p v).map fun y=>(x.1,y)
 |.sl _ a,x,.i n::p,v=>(setP a (List.getD x n a.zv) p v).map fun y=>List.set x n y
 |_,_,_,_=>none
def prz:O→O→O
 |.z,.z=>.z
 |a,b=>.pr a b
def setO:O→List Step→O→Option O
 |_,[],o'=>some o'
 |.z,.f::p,o'=>(setO .z p o').map fun y=>prz y .z
 |.z,.s::p,o'=>(setO .z p o').map fun y=>prz .z y
 |.pr a b,.f::p,o'=>(setO a p o').map fun y=>prz y b
 |.pr a b,.s::p,o'=>(setO b p o').map fun y=>prz a y
 |_,_,_=>none
def zo:Sh→O
 |.pair a b=>prz (zo a) (zo b)
 |.sl _ a=>.own (zo a)
 |_=>.z
def O.still:O→Bool
 |.z=>true
 |.pr a b=>a.still&&b.still
 |_=>false
def O.alive:O→Bool
 |.dead=>false
 |.own a=>a.alive
 |.pr a b=>a.alive&&b.alive
 |.z=>true
def meetZ (a b:O):Option O:=match a.alive&&b.alive with
 |true=>some .z
 |false=>none
def meet:O→O→Option O
 |.dead,_=>none
 |_,.dead=>none
 |.own a,.own b=>(meet a b).map .own
 | .pr a b,.pr c d=>match meet a c,meet b d with
   |some x,some y=>some (prz x y)
   |_,_=>none
 |a,b=>meetZ a b
def le:O→O→Bool
 |_,.dead=>true
 |.dead,_=>false
 |a,.z=>a.alive
 |.own a,.own b=>le a b
 |.pr a b,.pr c d=>le a c&&le b d
 |_,_=>false
def Sh.plain:Sh→Bool
 |.pair a b=>a.plain&&b.plain
 |.tok a b=>a.plain&&b.plain
 |.md _=>false
 |.ptr _=>false
 |.fn _ _=>false
 |_=>true
def Sh.flat:Sh→Bool
 |.int _ | .bool | .str | .unit=>true
 |.pair a b=>a.flat&&b.flat
 |_=>false
def inner:List Step→Bool
 |[]=>false
 |.i _::_=>true
 |_::p=>inner p
section
variable (C s:St)
def getT (k:Nat):Option Val:=match look k s.tmps with
 |some v=>some v
 |none=>look k C.tmps
def getR (k:Nat):Option Root:=match look k s.roots with
 |some v=>some v
 |none=>look k C.roots
end
def mkRef (key:Nat):(s:Sh)→(o:O)→s.den→List Step→Val
 |s,.z,x,_=>.t s .z x
 |_,.dead,_,_=>.undef
 |.pair a b,.pr oa ob,x,p=>.pair (mkRef key a oa x.1 (p++[.f])) (mkRef key b ob x.2 (p++[.s]))
 |.sl _ _,.own _,_,p=>.own key p
 |_,_,_,_=>.undef
def hole:(s:Sh)→(o:O)→s.den→TV
 | .pair a b,.pr oa ob,x=>match hole a oa x.1,hole b ob x.2 with
   |⟨p,u⟩,⟨q,v⟩=>⟨.pair p q,(u,v)⟩
 | s,o,x=>match o.alive with
   |true=>⟨s,x⟩
   |false=>⟨.md s,(false,x)⟩
def view (C s:St):Val→Option TV
 | .t sh o x=>match o.alive with
   |true=>some ⟨sh,x⟩
   |false=>none
 | .own key p=>match getR C s key with
   | some r=>match oP r.o p with
     | some o=>match o.alive with
       |true=>getP r.s r.x p
       |false=>none
     |none=>none
   |none=>none
 | .pair a b=>match view C s a,view C s b with
   |some ⟨sa,x⟩,some ⟨sb,y⟩=>some ⟨.pair sa sb,(x,y)⟩
   |_,_=>none
 | .baddr key p=>match getR C s key with
   | some r=>match r.box,oP r.o p with
     | true,some o=>match o.alive with
       | true=>match getP r.s r.x p with
         |some ⟨sh,x⟩=>some ⟨.ptr sh,x⟩
         |none=>none
       | false=>match getP r.s r.x p with
         | some ⟨sh,x⟩=>match hole sh o x with
           |⟨sh1,x1⟩=>some ⟨.ptr sh1,x1⟩
         |none=>none
     |_,_=>none
   |none=>none
 |.faddr sh x=>some ⟨.ptr sh,x⟩
 | .clo f c=>match view C s c with
   |some ⟨sh,x⟩=>some ⟨.fn f sh,x⟩
   |none=>none
 |_=>none
def keys:Val→List Nat
 |.own key _=>[key]
 |.pair a b=>keys a++keys b
 |.tup a b=>keys a++keys b
 |.baddr key _=>[key]
 |.eaddr key _ _ _=>[key]
 |.sub key _ _ _=>[key]
 |.clo _ c=>keys c
 |.vbox c=>keys c
 |_=>[]
def refs (all:Bool) (k:Nat):Val→Bool
 |.own key _=>Nat.beq key k
 |.eaddr key _ _ _=>Nat.beq key k
 |.sub key _ _ _=>Nat.beq key k
 |.baddr key _=>all&&Nat.beq key k
 |.pair a b=>refs all k a||refs all k b
 |.tup a b=>refs all k a||refs all k b
 |.clo _ c=>refs all k c
 |.vbox c=>refs all k c
 |_=>false
def killT (all:Bool) (k:Nat):List (Nat×Val)→List (Nat×Val)
 |[]=>[]
 | (j,v)::l=>match refs all k v with
   |true=>killT all k l
   |false=>(j,v)::killT all k l
def anyRef (all:Bool) (k:Nat):List (Nat×Val)→Bool
 |[]=>false
 |(_,v)::l=>refs all k v||anyRef all k l
def newRoot (C s:St) (k:Nat) (r:Root):Option St:=
 match look k C.roots,anyRef true k C.tmps with
 |none,false=>some ⟨killT true k s.tmps,upd k r s.roots⟩
 |_,_=>none
def reRoot (C s:St) (k:Nat) (r:Root):Option St:=
 match look k C.roots,anyRef false k C.tmps with
 |none,false=>some ⟨killT false k s.tmps,upd k r s.roots⟩
 |_,_=>none
def inRoot (C s:St) (k:Nat) (r:Root):Option St:=
 match look k C.roots with
 |none=>some ⟨s.tmps,upd k r s.roots⟩
 |_=>none
def put (C s:St) (d:Nat) (v:Val):Option St:=
 match look d C.tmps with
 |none=>some ⟨upd d v s.tmps,s.roots⟩
 |_=>none
def frzOk:O→Bool
 |.z=>true
 |.dead=>true
 |.own o=>o.alive
 |.pr a b=>frzOk a&&frzOk b
def frzO:O→O
 |.z=>.z
 |.dead=>.dead
 |.own _=>.z
 |.pr a b=>prz (frzO a) (frzO b)
def frzAt:O→List Step→Option O
 | .own a,.i _::_=>match frzOk a with
   |true=>some (.own (frzO a))
   |false=>none
 |.pr a b,.f::p=>(frzAt a p).map fun y=>prz y b
 |.pr a b,.s::p=>(frzAt b p).map fun y=>prz a y
 |_,_=>none
def takeOwn (C s:St) (key:Nat) (p:List Step):Option (OV×St):=
 match getR C s key with
  | some r=>match oP r.o p,getP r.s r.x p with
    | some o,some ⟨sh,x⟩=>match o with
      |.dead=>none
      |.z=>some (⟨sh,.z,x⟩,s)
      | o=>match inner p with
        | false=>match setO r.o p .dead with
          | some o'=>match reRoot C s key ⟨r.box,r.box&&r.inn,r.s,o',r.x⟩with
            |some s'=>some (⟨sh,o,x⟩,s')
            |none=>none
          |none=>none
        | true=>match frzAt r.o p,look key s.roots,look key C.roots with
          | some o',some _,none=>match oP o' p with
            |some .z=>some (⟨sh,.z,x⟩,⟨s.tmps,upd key ⟨r.box,r.inn,r.s,o',r.x⟩ s.roots⟩)
            |_=>none
          |_,_,_=>none
    |_,_=>none
  |none=>none
def takeV (C s:St):Val→Option (OV×St)
 |.t sh o x=>some (⟨sh,o,x⟩,s)
 |.own key p=>takeOwn C s key p
 | .sub key p 0 hi=>match takeOwn C s key p with
   |some (⟨.sl e a,.own .z,x⟩,s')=>some (⟨.sl e a,.own .z,List.take hi x⟩,s')
   |_=>none
 | .sub key p (lo+1) hi=>match getR C s key with
   | some r=>match oP r.o p,getP r.s r.x p,setO r.o p .z with
     | some (.own .z),some ⟨.sl e a,x⟩,some o'=>match inner p,le r.o o',oP o' p with
       | false,true,some .z=>match look key s.roots,look key C.roots with
         |some _,none=>some (⟨.sl e a,.z,List.take (hi - (lo+1)) (List.drop (lo+1) x)⟩,⟨s.tmps,upd key ⟨r.box,r.inn,r.s,o',r.x⟩ s.roots⟩)
         |_,_=>none
       |_,_,_=>none
     |_,_,_=>none
   |none=>none
 | .pair a b=>match takeV C s a with
   | some (⟨sa,oa,x⟩,s1)=>match takeV C s1 b with
     |some (⟨sb,ob,y⟩,s2)=>some (⟨.pair sa sb,prz oa ob,(x,y)⟩,s2)
     |none=>none
   |none=>none
 | .baddr key []=>match getR C s key with
   | some r=>match r.box,look key C.roots,anyRef true key C.tmps with
     |true,none,false=>some (⟨.ptr r.s,.own r.o,r.x⟩,⟨killT true key s.tmps,del key s.roots⟩)
     |_,_,_=>none
   |none=>none
 |_=>none
def bring (k:Nat) (v:OV):Val×Option Root:=
 match v.o with
 |.z=>(.t v.s .z v.x,none)
 | .own o=>match v.s,v.x with
   |.ptr a,x=>(.baddr k [],some ⟨true,false,a,o,x⟩)
   |sh,x=>(mkRef k sh (.own o) x [],some ⟨false,false,sh,.own o,x⟩)
 |o=>(mkRef k v.s o v.x [],some ⟨false,false,v.s,o,v.x⟩)
end Go.V
namespace Go.V
open Go
structure Sig where
 args:List O
 res:List (Sh×O)
 outs:List O
structure Loop where
 tmps:List (Nat×Sh)
 refs:List (Nat×Nat)
 roots:List (Nat×Bool×Bool×Sh×O)
 irefs:List (Nat×Nat×List Step)
 ctmps:List Nat
 croots:List Nat
 srefs:List (Nat×Nat):=[]
 drains:List Nat:=[]
structure Env where
 sh:TypeId→Option Sh
 sigs:FuncId→List Sig
 params:FuncId→List (Option Sh)
 gives:FuncId→List OV→List OV→List OV→Prop
def maxL:Nat:=1099511627776
def lenA (n:Int) (p:Prop):Prop:=n≤9223372036854775807→p
def aggSh:Sh→Bool
 |.pair _ _=>true
 |.tok _ _=>true
 |.md a=>aggSh a
 |.unit=>true
 |_=>false
def vEq:Value→Value→Bool
 |.int k n,.int j m=>decide (k=j)&&decide (n=m)
 |.bool a,.bool b=>a == b
 |.string a,.string b=>decide (a.data.toList=b.data.toList)
 |.slice none 0 0,.slice none 0 0=>true
 |_,_=>false
def vsEq:List Value→List Value→Bool
 |[],[]=>true
 |a::l,b::m=>vEq a b&&vsEq l m
 |_,_=>false
def constV (sh:Option Sh):Value→Option Val
 | .int k n=>match decide (k.min≤n)&&decide (n≤k.max)with
   |true=>some (.t (.int k) .z n)
   |false=>none
 |.bool b=>some (.t .bool .z b)
 | .string s=>match Nat.ble s.data.toList.length 65536 with
   |true=>some (.t .str .z s.data.toList)
   |false=>none
 | .slice none 0 0=>match sh with
   |some (.sl e a)=>some (.t (.sl e a) (zo (.sl e a)) ([]:List a.den))
   |_=>some .nils
 | .agg cs=>match sh with
   | some s=>match s.plain&&aggSh s&&vsEq cs.toList (zcells s)with
     |true=>some (.t s (zo s) s.zv)
     |false=>none
   |none=>none
 |.pointer none=>some .undef
 |.nilFunc=>some .undef
 |.map none=>some .undef
 |_=>none
def evalV (C s:St) (sh:Option Sh):Operand→Option Val
 |.tmp t=>getT C s t
 |.const v=>constV sh v
 |.func f=>some (.clo f (.t .unit .z ()))
 |.global _=>none
def w64 (n:Int):Int:=IntKind.i64.wrap n
def wrapK (k:IntKind) (n:Int):Int:=match k with
 |.i64=>w64 n
 |k=>k.wrap n
def bitsK (op:BinOp) (k:IntKind) (x y:Int):Int:=
 match op with
 |.and=>k.wrap (BitVec.ofInt k.bits x &&& BitVec.ofInt k.bits y).toNat
 |.or=>k.wrap (BitVec.ofInt k.bits x ||| BitVec.ofInt k.bits y).toNat
 |.xor=>k.wrap (BitVec.ofInt k.bits x ^^^ BitVec.ofInt k.bits y).toNat
 |_=>k.wrap (BitVec.ofInt k.bits x &&& ~~~(BitVec.ofInt k.bits y)).toNat
def intOp (op:BinOp) (k:IntKind) (x y:Int):M Val:=
 match op with
 |.add=>.ret (.t (.int k) .z (wrapK k (x+y)))
 |.sub=>.ret (.t (.int k) .z (wrapK k (x - y)))
 |.mul=>.ret (.t (.int k) .z (wrapK k (x * y)))
 |.quo=>(M.need (y≠0)).bind fun _=>.ret (.t (.int k) .z (wrapK k (x.tdiv y)))
 |.rem=>(M.need (y≠0)).bind fun _=>.ret (.t (.int k) .z (x.tmod y))
 |.eql=>.ret (.t .bool .z (x == y))
 |.neq=>.ret (.t .bool .z (x != y))
 |.lss=>.ret (.t .bool .z (decide (x<y)))
 |.leq=>.ret (.t .bool .z (decide (x≤y)))
 |.gtr=>.ret (.t .bool .z (decide (x > y)))
 |.geq=>.ret (.t .bool .z (decide (x≥y)))
 |.and=>.ret (.t (.int k) .z (bitsK .and k x y))
 |.or=>.ret (.t (.int k) .z (bitsK .or k x y))
 |.xor=>.ret (.t (.int k) .z (bitsK .xor k x y))
 |.andNot=>.ret (.t (.int k) .z (bitsK .andNot k x y))
 |_=>.fail
def shiftOp (op:BinOp) (k:IntKind) (x y:Int):M Val:=
 match op with
 |.shl=>(M.need (0≤y)).bind fun _=>.ret (.t (.int k) .z (wrapK k (x * 2 ^ (min y.toNat k.bits))))
 |.shr=>(M.need (0≤y)).bind fun _=>.ret (.t (.int k) .z (x.fdiv (2 ^ (min y.toNat k.bits))))
 |_=>.fail
def strOp (op:BinOp) (x y:List UInt8):M Val:=
 match op with
 |.add=>(M.need (x.length+y.length≤maxL)).bind fun _=>.ret (.t .str .z (x++y))
 |.eql=>.ret (.t .bool .z (x == y))
 |.neq=>.ret (.t .bool .z (!(x == y)))
 |.lss=>.ret (.t .bool .z (Op.bytesLess x y))
 |.leq=>.ret (.t .bool .z (Op.bytesLess x y||x == y))
 |.gtr=>.ret (.t .bool .z (!(Op.bytesLess x y||x == y)))
 |.geq=>.ret (.t .bool .z (!(Op.bytesLess x y)))
 |_=>.fail
def binV (op:BinOp) (a b:Val):M Val:=
 match a,b with
 | .t (.int k) .z x,.t (.int j) .z y=>match op with
   |.shl=>shiftOp .shl k x y
   |.shr=>shiftOp .shr k x y
   | op=>match decEq k j with
     |.isTrue _=>intOp op k x y
     |.isFalse _=>.fail
 |.t .str .z x,.t .str .z y=>strOp op x y
 | .t .bool .z x,.t .bool .z y=>match op with
   |.eql=>.ret (.t .bool .z ((show Bool from x) == (show Bool from y)))
   |.neq=>.ret (.t .bool .z (!((show Bool from x) == (show Bool from y))))
   |_=>.fail
 |_,_=>.fail
def binOk (t:Option Sh):Val→Bool
 | .t .bool _ _=>match t with
   |some .bool=>true
   |_=>false
 |_=>true
def structEq (C s:St) (t:Option Sh) (op:BinOp) (a b:Val):Option Bool:=
 match t with
 | some t=>match leafS t,view C s a,view C s b with
   | true,some ⟨sa,x⟩,some ⟨sb,y⟩=>match castD t sa x,castD t sb y with
     | some x,some y=>match op with
       |.eql=>some (eqD t x y)
       |.neq=>some (!(eqD t x y))
       |_=>none
     |_,_=>none
   |_,_,_=>none
 |none=>none
def minI (x y:Int):Int:=if y<x then y else x
def maxI (x y:Int):Int:=if y > x then y else x
def fieldPath:Nat→List Step
 |0=>[.f]
 |n+1=>.s::fieldPath n
def items (C s:St) (v:Val):Option ((e:TypeId)×(a:Sh)×O×List a.den×St):=
 match v with
 |.t (.sl e a) .z x=>some ⟨e,a,.z,x,s⟩
 |.t (.sl e a) (.own o) x=>some ⟨e,a,o,x,s⟩
 | .own key p=>match getR C s key with
   | some r=>match oP r.o p,getP r.s r.x p with
     |some .z,some ⟨.sl e a,x⟩=>some ⟨e,a,.z,x,s⟩
     | some (.own o),some ⟨.sl e a,x⟩=>match o.still with
       |true=>some ⟨e,a,o,x,s⟩
       | false=>match inner p,setO r.o p .dead with
         | false,some o'=>match reRoot C s key ⟨r.box,r.box&&r.inn,r.s,o',r.x⟩with
           |some s'=>some ⟨e,a,o,x,s'⟩
           |none=>none
         |_,_=>none
     |_,_=>none
   |none=>none
 | .sub key p lo hi=>match getR C s key with
   | some r=>match oP r.o p,getP r.s r.x p with
     | some (.own o),some ⟨.sl e a,x⟩=>match o.still with
       |true=>some ⟨e,a,o,List.take (hi - lo) (List.drop lo x),s⟩
       | false=>match look key C.roots,inner p,o.alive,setO r.o p (.own .z)with
         |none,false,true,some o2=>some ⟨e,a,.z,List.take (hi - lo) (List.drop lo x),⟨s.tmps,upd key ⟨r.box,r.inn,r.s,o2,r.x⟩ s.roots⟩⟩
         |_,_,_,_=>none
     |_,_=>none
   |none=>none
 |_=>none
def takeAll (C:St) (ev:St→Operand→Option Val):St→Nat→List (Nat×Operand)→Option (List OV×St)
 |s,_,[]=>some ([],s)
 | s,n,(i,x)::l=>match Nat.beq i n,ev s x with
   | true,some v=>match takeV C s v with
     | some (u,s1)=>match takeAll C ev s1 (n+1) l with
       |some (us,s2)=>some (u::us,s2)
       |none=>none
     |none=>none
   |_,_=>none
def sameAll (a:Sh):List OV→Option (O×List a.den)
 |[]=>some (zo a,[])
 | u::l=>match castD a u.s u.x,sameAll a l with
   | some x,some (o,xs)=>match meet u.o o with
     |some o'=>some (o',x::xs)
     |none=>none
   |_,_=>none
def same (a:Sh) (b:Option Sh):Bool:=match b with
 | some b=>match decEq a b with
   |.isTrue _=>true
   |.isFalse _=>false
 |none=>false
def sameO (a b:Option Sh):Bool:=match a with
 |some a=>same a b
 |none=>false
def shV (C s:St):Val→Option Sh
 |.t sh _ _=>some sh
 | .own key p=>match getR C s key with
   |some r=>shP r.s p
   |none=>none
 | .pair a b=>match shV C s a,shV C s b with
   |some x,some y=>some (.pair x y)
   |_,_=>none
 |.faddr sh _=>some (.ptr sh)
 | .clo f c=>match shV C s c with
   |some x=>some (.fn f x)
   |none=>none
 |_=>none
def fieldsOf (C:St) (ev:St→Option Sh→Operand→Option Val) (s:St):(sh:Sh)→Nat→List (Nat×Operand)→Option Val
 |.unit,_,[]=>some (.t .unit .z ())
 | .pair a b,n,[]=>match a.plain,fieldsOf C ev s b (n+1) []with
   |true,some w=>some (.pair (.t a (zo a) a.zv) w)
   |_,_=>none
 | .pair a b,n,(i,x)::l=>match Nat.beq i n with
   | true=>match ev s (some a) x with
     | some v=>match sameO (shV C s v) (some a),fieldsOf C ev s b (n+1) l with
       |true,some w=>some (.pair v w)
       |_,_=>none
     |none=>none
   | false=>match a.plain,fieldsOf C ev s b (n+1) ((i,x)::l)with
     |true,some w=>some (.pair (.t a (zo a) a.zv) w)
     |_,_=>none
 |_,_,_=>none
def nth (v:Val):Nat→Option Val
 | 0=>match v with
   |.tup a _=>some a
   |_=>none
 | n+1=>match v with
   |.tup _ b=>nth b n
   |_=>none
def lend (C s:St):O→Val→Option OV
 | .z,v=>match view C s v with
   |some ⟨sh,x⟩=>some ⟨sh,.z,x⟩
   |none=>none
 | o,.t sh o' x=>match le o' o with
   |true=>some ⟨sh,o,x⟩
   |false=>none
 | o,.own key p=>match getR C s key,look key C.roots with
   | some r,none=>match oP r.o p,getP r.s r.x p with
     | some o',some ⟨sh,x⟩=>match decEq o' o,inner p with
       |.isTrue _,_=>some ⟨sh,o,x⟩
       |_,_=>none
     |_,_=>none
   |_,_=>none
 | .own o,.baddr key p=>match getR C s key,look key C.roots with
   | some r,none=>match oP r.o p,getP r.s r.x p with
     | some o',some ⟨sh,x⟩=>match r.box,p,decEq o' o with
       |true,[],.isTrue _=>some ⟨.ptr sh,.own o,x⟩
       |_,_,_=>none
     |_,_=>none
   |_,_=>none
 | .pr a b,.pair v w=>match lend C s a v,lend C s b w with
   |some x,some y=>some ⟨.pair x.s y.s,.pr x.o y.o,(x.x,y.x)⟩
   |_,_=>none
 |_,_=>none
def lendAll (C s:St):List O→List Val→Option (List OV)
 |[],[]=>some []
 | o::os,v::vs=>match lend C s o v,lendAll C s os vs with
   |some u,some us=>some (u::us)
   |_,_=>none
 |_,_=>none
def frzAll (C:St):St→List Nat→Option St
 |s,[]=>some s
 | s,k::l=>match look k s.roots,look k C.roots with
   | some r,none=>match frzOk r.o with
     |true=>frzAll C ⟨s.tmps,upd k ⟨r.box,r.inn,r.s,frzO r.o,r.x⟩ s.roots⟩ l
     |false=>none
   | none,some r=>match r.o.still with
     |true=>frzAll C s l
     |false=>none
   |_,_=>none
def readK:O→Val→List Nat
 |.z,v=>keys v
 |.pr a b,.pair v w=>readK a v++readK b w
 |_,_=>[]
def readKeys:List O→List Val→List Nat
 |o::os,v::vs=>readK o v++readKeys os vs
 |_,_=>[]
def boxKeys:Val→List Nat
 |.pair a b=>boxKeys a++boxKeys b
 |.tup a b=>boxKeys a++boxKeys b
 |.baddr key _=>[key]
 |.clo _ c=>boxKeys c
 |_=>[]
def readB:O→Val→List Nat
 |.z,v=>boxKeys v
 |.pr a b,.pair v w=>readB a v++readB b w
 |_,_=>[]
def readBox:List O→List Val→List Nat
 |o::os,v::vs=>readB o v++readBox os vs
 |_,_=>[]
def lentK:O→Val→List Nat
 |.z,_=>[]
 |_,.t _ _ _=>[]
 |_,.own key _=>[key]
 |_,.baddr key _=>[key]
 |.pr a b,.pair v w=>lentK a v++lentK b w
 |_,_=>[]
def lentKeys:List O→List Val→List Nat
 |o::os,v::vs=>lentK o v++lentKeys os vs
 |_,_=>[]
def memN (k:Nat):List Nat→Bool
 |[]=>false
 |j::l=>Nat.beq j k||memN k l
def nodupN:List Nat→Bool
 |[]=>true
 |k::l=>!memN k l&&nodupN l
def apartN (l:List Nat):List Nat→Bool
 |[]=>true
 |k::m=>!memN k l&&apartN l m
def mayAlias:Sh→O→Bool
 |sh,.z=>!sh.flat
 |.pair a b,.pr x y=>mayAlias a x||mayAlias b y
 |.sl _ a,.own o=>mayAlias a o
 |.ptr a,.own o=>mayAlias a o
 |.fn _ c,o=>mayAlias c o
 |.tok _ _,.dead=>false
 |.tok _ _,_=>true
 |.md a,o=>mayAlias a o
 |_,_=>false
def ownAlias (u:OV):Bool:=mayAlias u.s u.o
def refsI (k:Nat):Val→Bool
 |.own key p=>Nat.beq key k&&inner p
 |.eaddr key p _ _=>Nat.beq key k&&inner p
 |.sub key p _ _=>Nat.beq key k&&inner p
 |.pair a b=>refsI k a||refsI k b
 |.tup a b=>refsI k a||refsI k b
 |.clo _ c=>refsI k c
 |.vbox c=>refsI k c
 |_=>false
def killI (k:Nat):List (Nat×Val)→List (Nat×Val)
 |[]=>[]
 | (j,v)::l=>match refsI k v with
   |true=>killI k l
   |false=>(j,v)::killI k l
def anyI (k:Nat):List (Nat×Val)→Bool
 |[]=>false
 |(_,v)::l=>refsI k v||anyI k l
def reRootI (C s:St) (k:Nat) (r:Root):Option St:=
 match look k C.roots,anyI k C.tmps with
 |none,false=>some ⟨killI k s.tmps,upd k r s.roots⟩
 |_,_=>none
def backO (o:O) (p:List Step) (o':O):Option O:=match oP o p with
 | some o1=>match decEq o1 o' with
   |.isTrue _=>some o
   |.isFalse _=>setO o p o'
 |none=>none
def halfO (first:Bool):O→O
 | .pr a b=>match first with
   |true=>a
   |false=>b
 |o=>o
def giveOne (C s:St) (out:OV):Val→Option St
 |.t _ _ _=>some s
 | .own key p=>match getR C s key with
   | some r=>match backO r.o p out.o,setP r.s r.x p ⟨out.s,out.x⟩with
     | some o',some x'=>match out.o with
       | .dead=>match inner p with
         |false=>reRoot C s key ⟨r.box,r.box&&r.inn,r.s,o',r.x⟩
         |true=>none
       |_=>reRootI C s key ⟨r.box,r.inn,r.s,o',x'⟩
     |_,_=>none
   |none=>none
 | .baddr key _=>match getR C s key,out.o,out.s,out.x with
   | some r,.own o',.ptr a,x=>match castD r.s a x with
     |some x'=>reRoot C s key ⟨r.box,r.box&&r.inn,r.s,o',x'⟩
     |none=>none
   |_,_,_,_=>none
 |_=>none
def giveBack (C:St) (s:St) (o:O) (out:OV) (v:Val):Option St:=
 match v with
 | .pair v w=>match o with
   |.z=>some s
   | o=>match out with
     | ⟨.pair sa sb,o',x⟩=>match giveBack C s (halfO true o) ⟨sa,halfO true o',x.1⟩ v with
       |some s1=>giveBack C s1 (halfO false o) ⟨sb,halfO false o',x.2⟩ w
       |none=>none
     |_=>none
 | v=>match o with
   |.z=>some s
   |_=>giveOne C s out v
def giveAll (C:St):St→List O→List OV→List Val→Option St
 |s,[],[],[]=>some s
 |s,.z::os,_::us,_::vs=>giveAll C s os us vs
 | s,o::os,u::us,v::vs=>match giveBack C s o u v with
   |some s1=>giveAll C s1 os us vs
   |none=>none
 |_,_,_,_=>none
def bringAll (C:St):St→Nat→List OV→Option (List Val×St)
 |s,_,[]=>some ([],s)
 | s,k,u::us=>match bring k u with
   | (v,none)=>match bringAll C s (k+1000) us with
     |some (vs,s2)=>some (v::vs,s2)
     |none=>none
   | (v,some r)=>match newRoot C s k r with
     | some s1=>match bringAll C s1 (k+1000) us with
       |some (vs,s2)=>some (v::vs,s2)
       |none=>none
     |none=>none
def tupOf:List Val→Val
 |[]=>.tnil
 |v::vs=>.tup v (tupOf vs)
def resVal:List Val→Val
 |[v]=>v
 |vs=>tupOf vs
def anyRes:List (Sh×O)→(List OV→Prop)→Prop
 |[],K=>K []
 |(sh,o)::l,K=>∃ x:sh.den,anyRes l fun us=>K (⟨sh,o,x⟩::us)
def anyOut:List OV→List O→(List OV→Prop)→Prop
 |[],_,K=>K []
 | u::us,o::os,K=>match u.o with
   |.z=>anyOut us os fun l=>K (⟨u.s,.z,u.x⟩::l)
   | _=>match o with
     |.dead=>anyOut us os fun l=>K (⟨u.s,.dead,u.x⟩::l)
     |o=>∃ y:u.s.den,anyOut us os fun l=>K (⟨u.s,o,y⟩::l)
 |_::_,[],_=>False
def tmpOp:Op→Bool
 |.move _ | .assign _ | .pick _ _ _ | .nilCheck _ | .binOp _ _ _ _ _ | .unOp _ _ _ | .fieldAddr _ _ _ | .field _ _ _ | .indexAddr _ _ _ | .index _ _ _ | .extract _ _ | .slice _ _ _ _ _ | .build _ _=>true
 |.makeFunc (.func _) _ _=>true
 | .call c=>match c.callee with
   |.builtin .append=>false
   |.builtin .copy=>false
   |.builtin .clear=>false
   |.builtin _=>true
   |_=>false
 |_=>false
def memOp:Op→Option Operand
 |.load _ x=>some x
 |.convert _ _ x=>some x
 |_=>none
structure Prt where
 key:Nat
 p:List Step
 k:Nat
def slS:Sh→Bool
 |.sl _ _=>true
 |_=>false
def splitOne (C s:St) (key:Nat) (p:List Step) (k:Nat):Option St:=
 match getR C s key,look key C.roots,anyRef false key C.tmps,inner p,Nat.beq key k,getR C s k with
 | some r,none,false,false,false,none=>match oP r.o p,getP r.s r.x p,setO r.o p .dead with
   |some o,some ⟨sh,x⟩,some o'=>newRoot C ⟨killI key s.tmps,upd key ⟨r.box,r.inn,r.s,o',r.x⟩ s.roots⟩ k ⟨false,false,sh,o,x⟩
   |_,_,_=>none
 |_,_,_,_,_,_=>none
def clearP (l:List Prt) (v:Val):Bool:=l.all fun q=>!refsI q.key v && !refs true q.k v
def splitV (C:St) (dup:List Nat):O→Val→Nat→St→Option (Val×List Prt×Nat×St)
 |.z,v,n,s=>some (v,[],n,s)
 | .pr a b,.pair v w,n,s=>match splitV C dup a v n s with
   | some (v',l,n1,s1)=>match splitV C dup b w n1 s1,clearP l w with
     | some (w',m,n2,s2),true=>match clearP m v' with
       |true=>some (.pair v' w',l++m,n2,s2)
       |false=>none
     |_,_=>none
   |none=>none
 | _,.own key p,n,s=>match memN key dup with
   | true=>match splitOne C s key p n with
     |some s'=>some (.own n [],[⟨key,p,n⟩],n+1000,s')
     |none=>none
   |false=>some (.own key p,[],n,s)
 |_,v,n,s=>some (v,[],n,s)
def splitAll (C:St) (dup:List Nat):List O→List Val→Nat→St→Option (List Val×List Prt×Nat×St)
 | o::os,v::vs,n,s=>match splitV C dup o v n s with
   | some (v',l,n1,s1)=>match splitAll C dup os vs n1 s1,vs.all (clearP l)with
     | some (vs',m,n2,s2),true=>match clearP m v' with
       |true=>some (v'::vs',l++m,n2,s2)
       |false=>none
     |_,_=>none
   |none=>none
 |_,vs,n,s=>some (vs,[],n,s)
def joinOne (C s:St) (q:Prt):Option St:=
 match getR C s q.key,getR C s q.k,look q.key C.roots,look q.k C.roots,anyRef false q.key C.tmps,anyRef true q.k C.tmps,Nat.beq q.key q.k with
 | some r,some u,none,none,false,false,false=>match oP r.o q.p,getP r.s r.x q.p,u.box with
   | some .dead,some ⟨sh,_⟩,false=>match slS sh,castD sh u.s u.x with
     | true,some x1=>match setO r.o q.p u.o,setP r.s r.x q.p ⟨sh,x1⟩with
       |some o',some x'=>some ⟨killI q.key (killT true q.k s.tmps),upd q.key ⟨r.box,r.inn,r.s,o',x'⟩ (del q.k s.roots)⟩
       |_,_=>none
     |_,_=>none
   |_,_,_=>none
 |_,_,_,_,_,_,_=>none
def joinAll (C:St):St→List Prt→Option St
 |s,[]=>some s
 | s,q::l=>match joinOne C s q with
   |some s1=>joinAll C s1 l
   |none=>none
def dups (l m:List Nat):List Nat:=l.filter fun k=>memN k m||Nat.blt 1 (l.filter (Nat.beq k)).length
section
variable (E:Env) (C:St)
def evalAll (s:St):List (Option Sh)→List Operand→Option (List Val)
 |_,[]=>some []
 | [],x::l=>match evalV C s none x,evalAll s [] l with
   |some v,some vs=>some (v::vs)
   |_,_=>none
 | sh::shs,x::l=>match evalV C s sh x,evalAll s shs l with
   |some v,some vs=>some (v::vs)
   |_,_=>none
def pickSig (C s:St) (vs:List Val):List Sig→Option (Sig×List OV)
 |[]=>none
 | g::l=>match lendAll C s g.args vs with
   | some us=>match nodupN (lentKeys g.args vs)&&apartN (lentKeys g.args vs) (readKeys g.args vs)with
     |true=>some (g,us)
     |false=>none
   |none=>pickSig C s vs l
def pickDup (C s:St) (vs:List Val):List Sig→Option Sig
 |[]=>none
 | g::l=>match lendAll C s g.args vs with
   |some _=>some g
   |none=>pickDup C s vs l
def softOne (C s:St) (o:O):Val→Option St
 | .own key p=>match getR C s key,look key C.roots,inner p with
   | some r,none,false=>match oP r.o p with
     | some o'=>match decEq o' o with
       |.isTrue _=>some s
       | .isFalse _=>match o,o' with
         | .own .z,.own o1=>match o1.alive,setO r.o p (.own .z)with
           |true,some o2=>inRoot C s key ⟨r.box,r.inn,r.s,o2,r.x⟩
           |_,_=>none
         |_,_=>none
     |none=>none
   |_,_,_=>none
 |_=>some s
def softAll (C:St):List O→List Val→St→Option St
 | o::os,v::vs,s=>match softOne C s o v with
   |some s1=>softAll C os vs s1
   |none=>none
 |_,_,s=>some s
def pickSoft (C s:St) (vs:List Val):List Sig→Option (Sig×St×List OV)
 |[]=>none
 | g::l=>match softAll C g.args vs s with
   | some s'=>match lendAll C s' g.args vs with
     |some us=>some (g,s',us)
     |none=>pickSoft C s vs l
   |none=>pickSoft C s vs l
def aliasOf (g:Sig):List OV→List O→Bool
 | u::us,o::os=>(match u.o with
   |.z=>false
   |_=>ownAlias ⟨u.s,o,u.x⟩)||aliasOf g us os
 |_,_=>g.res.any fun r=>mayAlias r.1 r.2
def callSt (s:St) (g:Sig) (us:List OV) (vs:List Val):Option St:=
 match aliasOf g us g.outs with
 | true=>match readBox g.args vs with
   |[]=>frzAll C s (readKeys g.args vs)
   |_=>none
 |false=>some s
def fixB (k:Nat) (sh:Sh) (x:sh.den):Val→Val
 | .baddr key p=>match Nat.beq key k,p with
   |true,[]=>.faddr sh x
   |_,_=>.baddr key p
 |.pair a b=>.pair (fixB k sh x a) (fixB k sh x b)
 |.tup a b=>.tup (fixB k sh x a) (fixB k sh x b)
 |.clo f c=>.clo f (fixB k sh x c)
 |.vbox c=>.vbox (fixB k sh x c)
 |v=>v
def boxOne (C s:St) (vs:List Val) (k:Nat):Option (St×List Val):=match getR C s k,look k C.roots,anyRef true k C.tmps with
 | some r,none,false=>match r.box,r.o.alive,(vs.map (fixB k r.s r.x)).any (refs true k)with
   |true,true,false=>some (⟨killT true k s.tmps,del k s.roots⟩,vs.map (fixB k r.s r.x))
   |_,_,_=>none
 |_,_,_=>none
def boxAll (C:St):List Nat→St→List Val→Option (St×List Val)
 |[],s,vs=>some (s,vs)
 | k::l,s,vs=>match boxOne C s vs k with
   |some (s1,vs1)=>boxAll C l s1 vs1
   |none=>none
def boxesOf (g:Sig) (us:List OV) (vs:List Val):List Nat:=match aliasOf g us g.outs with
 |true=>readBox g.args vs
 |false=>[]
def callG (s:St) (f:FuncId) (g:Sig) (us0:List OV) (vs:List Val) (ps:List Prt) (d:Nat):M (Val×St):=
 match callSt C s g us0 vs with
  |none=>.fail
  | some s0=>match lendAll C s0 g.args vs with
    |none=>.fail
    | some us=>fun K=>anyRes g.res fun rs=>anyOut us g.outs fun outs=>E.gives f us rs outs∧
      (match giveAll C s0 g.args outs vs with
      |none=>False
      | some s1'=>match joinAll C s1' ps with
        |none=>False
        | some s1=>match bringAll C s1 d rs with
          |none=>False
          |some (ws,s2)=>K (resVal ws,s2))
def thin1 (s:St) (v:Val):Option (St×Val):=match v with
 | .own key (q::p)=>match getR C s key,look key C.roots,inner (q::p)with
   | some r,none,false=>match oP r.o (q::p),getP r.s r.x (q::p),setO r.o (q::p) .z with
     | some (.own o1),some ⟨.sl e a,x⟩,some o2=>match o1.alive,o2.still,oP o2 (q::p)with
       |true,false,some .z=>some (⟨s.tmps,upd key ⟨r.box,r.inn,r.s,o2,r.x⟩ s.roots⟩,.t (.sl e a) .z x)
       |_,_,_=>none
     |_,_,_=>none
   |_,_,_=>none
 |_=>none
def thinZ:Val→St→Option (St×Val)
 | .pair a b,s=>match thinZ a s with
   | some (s1,a1)=>match thinZ b s1 with
     |some (s2,b1)=>some (s2,.pair a1 b1)
     |none=>some (s1,.pair a1 b)
   | none=>match thinZ b s with
     |some (s2,b1)=>some (s2,.pair a b1)
     |none=>none
 |v,s=>thin1 C s v
def thinV (s:St) (o:O) (v:Val):Option (St×Val):=match o with
 |.z=>thinZ C v s
 |_=>none
def thinAll:List O→List Val→St→St×List Val×Bool
 | o::os,v::vs,s=>match thinV C s o v with
   | some (s1,v1)=>match thinAll os vs s1 with
     |(s2,vs2,_)=>(s2,v1::vs2,true)
   | none=>match thinAll os vs s with
     |(s2,vs2,b)=>(s2,v::vs2,b)
 |_,vs,s=>(s,vs,false)
def callF (s:St) (f:FuncId) (vs:List Val) (d:Nat):M (Val×St):=
 match pickSig C s vs (E.sigs f)with
  | some (g,us0)=>match aliasOf g us0 g.outs,thinAll C g.args vs s with
    | true,(s',vs',true)=>match lendAll C s' g.args vs' with
      |none=>.fail
      | some us1=>match nodupN (lentKeys g.args vs')&&apartN (lentKeys g.args vs') (readKeys g.args vs')with
        |true=>callG E C s' f g us1 vs' [] d
        |false=>.fail
    |_,_=>callG E C s f g us0 vs [] d
  | none=>match pickDup C s vs (E.sigs f)with
    | none=>match pickSoft C s vs (E.sigs f)with
      |none=>.fail
      | some (g,s',us0)=>match boxAll C (boxesOf g us0 vs) s' vs with
        |none=>.fail
        | some (s'',vs')=>match lendAll C s'' g.args vs' with
          |none=>.fail
          | some us1=>match nodupN (lentKeys g.args vs')&&apartN (lentKeys g.args vs') (readKeys g.args vs')with
            |true=>callG E C s'' f g us1 vs' [] d
            |false=>.fail
    | some g=>match splitAll C (dups (lentKeys g.args vs) (readKeys g.args vs)) g.args vs (d+100000) s with
      |none=>.fail
      | some (vs',ps,_,s')=>match lendAll C s' g.args vs' with
        |none=>.fail
        | some us0=>match nodupN (lentKeys g.args vs')&&apartN (lentKeys g.args vs') (readKeys g.args vs')&&apartN (lentKeys g.args vs') (ps.map (·.key))with
          |true=>callG E C s' f g us0 vs' ps d
          |false=>.fail
def capOk (s:St):Val→Bool
 | .baddr k _=>match getR C s k with
   |some r=>r.box
   |none=>false
 | u=>match shV C s u with
   |some sh=>!aggSh sh
   |none=>false
def capsT:(sh:Sh)→sh.den→Option (List Val)
 |.unit,_=>some []
 | .pair a b,x=>match aggSh a,capsT b x.2 with
   |false,some l=>some (.t a .z x.1::l)
   |_,_=>none
 |_,_=>none
def capsOf (s:St):Val→Option (List Val)
 | .pair a b=>match capOk C s a,capsOf s b with
   |true,some l=>some (a::l)
   |_,_=>none
 | .t sh o x=>match o with
   |.z=>capsT sh x
   |_=>none
 |_=>none
def calleeOf (s:St):Val→Option (FuncId×List Val)
 |.clo f c=>(capsOf C s c).map fun l=>(f,l)
 |.t (.fn f c) .z x=>(capsT c x).map fun l=>(f,l)
 |_=>none
def lenV (s:St):Val→Option Int
 | .sub key p lo hi=>match getR C s key with
   | some r=>match oP r.o p,getP r.s r.x p with
     |some (.own _),some ⟨.sl _ _,_⟩=>some ((hi - lo:Nat):Int)
     |_,_=>none
   |none=>none
 | .t (.sl _ _) o x=>match o.alive with
   |true=>some (List.length x:Int)
   |false=>none
 |.t .str .z x=>some (List.length x:Int)
 |.nils=>some 0
 | .own key p=>match getR C s key with
   | some r=>match oP r.o p,getP r.s r.x p with
     | some o,some ⟨.sl _ _,x⟩=>match o.alive with
       |true=>some (List.length x:Int)
       |false=>none
     |_,_=>none
   |none=>none
 |_=>none
def nilAs (sh:Option Sh):Val→Option Val
 |.nils=>constV sh (.slice none 0 0)
 |a=>some a
def appendV (s:St) (sh:Option Sh) (d:Nat) (a b:Val):M (Val×St):=
 match items C s b with
 |none=>.fail
 | some ⟨e',eb,ob,ys,s1⟩=>
   match nilAs sh a with
   |none=>.fail
   |some a=>
   match takeV C s1 a with
   | some (⟨.sl e ea,oa,xs⟩,s2)=>match oa,castD (.sl e ea) (.sl e' eb) ys with
     | .own o,some ys=>match meet o ob with
       | some o'=>(M.need (List.length xs+List.length (show List ea.den from ys)≤maxL)).bind fun _=>
         match newRoot C s2 d ⟨false,false,.sl e ea,.own o',(show List ea.den from xs)++(show List ea.den from ys)⟩with
         |some s3=>.ret (.own d [],s3)
         |none=>.fail
       |none=>.fail
     |_,_=>.fail
   |_=>.fail
def copySrc (s:St) (k:IntKind):Val→Option (List Int)
 | .t (.sl _ (.int j)) .z y=>match decEq j k with
   |.isTrue _=>some (y:List Int)
   |.isFalse _=>none
 | .sub key [] lo hi=>match getR C s key with
   | some r=>match r.o,getP r.s r.x []with
     | .own .z,some ⟨.sl _ (.int j),y⟩=>match decEq j k with
       |.isTrue _=>some (List.take (hi - lo) (List.drop (α:=Int) lo y))
       |.isFalse _=>none
     |_,_=>none
   |none=>none
 |_=>none
def cpN (y:List Int) (lo hi:Nat):Nat:=min y.length (hi - lo)
def cpInt (x y:List Int) (lo hi:Nat):List Int:=x.take lo++(y.take (cpN y lo hi)++x.drop (lo+cpN y lo hi))
def copyTo (s:St) (key:Nat) (inn:Bool) (e:TypeId) (k:IntKind) (x y:List Int) (lo hi:Nat):M (Val×St):=
 (M.need (0<y.length∧lo<x.length)).bind fun _=>match inRoot C s key ⟨false,inn,.sl e (.int k),.own .z,(cpInt x y lo hi:List Int)⟩with
  |some s'=>.ret (.t (.int .i64) .z (cpN y lo hi:Int),s')
  |none=>.fail
def copyAt (s:St) (key:Nat) (rg:Option (Nat×Nat)) (b:Val):M (Val×St):=
 match getR C s key with
 | some r=>match r.box,r.o,getP r.s r.x []with
   | false,.own .z,some ⟨.sl e (.int k),x⟩=>match copySrc C s k b,rg with
     |some y,none=>copyTo C s key r.inn e k x y 0 (List.length (α:=Int) x)
     |some y,some (lo,hi)=>copyTo C s key r.inn e k x y lo hi
     |_,_=>.fail
   |_,_,_=>.fail
 |none=>.fail
def clearAt (s:St) (key lo hi:Nat):M (Val×St):=
 match getR C s key with
 | some r=>match r.box,r.o,getP r.s r.x []with
   | false,.own .z,some ⟨.sl e a,x⟩=>match a.plain with
     | true=>(M.need (lo<hi)).bind fun _=>match reRootI C s key ⟨false,r.inn,.sl e a,.own .z,(List.take lo x++(List.replicate (hi - lo) a.zv++List.drop hi x):List a.den)⟩with
       |some s'=>.ret (.undef,s')
       |none=>.fail
     |false=>.fail
   |_,_,_=>.fail
 |none=>.fail
def copyV (s:St):Val→Val→M (Val×St)
 |.own key [],b=>copyAt C s key none b
 |.sub key [] lo hi,b=>copyAt C s key (some (lo,hi)) b
 |_,_=>.fail
def builtinV (s:St) (b:Builtin) (sh:Option Sh) (d:Nat) (vs:List Val):M (Val×St):=
 match b,vs with
 | .len,[v]=>match lenV C s v with
   |some n=>fun K=>lenA n (K (.t (.int .i64) .z n,s))
   |none=>.fail
 |.append,[a,b]=>appendV C s sh d a b
 |.copy,[a,b]=>copyV C s a b
 |.clear,[.sub key [] lo hi]=>clearAt C s key lo hi
 | .min,[.t (.int k) .z x,.t (.int j) .z y]=>match decEq k j with
   |.isTrue _=>.ret (.t (.int k) .z (minI x y),s)
   |.isFalse _=>.fail
 | .max,[.t (.int k) .z x,.t (.int j) .z y]=>match decEq k j with
   |.isTrue _=>.ret (.t (.int k) .z (maxI x y),s)
   |.isFalse _=>.fail
 |_,_=>.fail
def rowSh (s:St):Val→Option Sh
 |.t sh _ _=>some sh
 | .own key p=>match getR C s key with
   |some r=>shP r.s p
   |none=>none
 | .sub key p _ _=>match getR C s key with
   |some r=>shP r.s p
   |none=>none
 |_=>none
def unmd:Option Sh→Option Sh
 |some (.sl e (.md a))=>some (.sl e a)
 |s=>s
def rowsOk (s:St) (b:Builtin) (shs:List (Option Sh)) (vs:List Val):Bool:=
 match b with
 | .len=>match shs,vs with
   | [sh],[v]=>match v with
     | .nils=>match sh with
       |some (.sl _ _)=>true
       |_=>false
     |v=>sameO (rowSh C s v) sh
   |_,_=>false
 | .append=>match shs,vs with
   | [sh1,sh2],[a,b]=>(match a with
     |.nils=>true
     |a=>sameO (rowSh C s a) sh1)&&sameO (rowSh C s b) sh2&&sameO sh1 sh2
   |_,_=>false
 | .copy=>match shs,vs with
   |[sh1,sh2],[a,b]=>sameO (rowSh C s a) sh1&&sameO (rowSh C s b) sh2
   |_,_=>false
 | .clear=>match shs,vs with
   |[sh1],[a]=>sameO (rowSh C s a) sh1
   |_,_=>false
 |_=>true
def bndV (n:Int):Option (Option Val)→Option Int
 |none=>some n
 |some (some (.t (.int _) .z x))=>some (show Int from x)
 |_=>none
def sliceBnd (n:Int) (lo hi:Option (Option Val)):Option (Int×Int):=
 match bndV 0 lo,bndV n hi with
 |some l,some h=>some (l,h)
 |_,_=>none
def elemAddr (s:St) (x:Val) (i:Int):M Val:=
 match x with
 |.t (.sl _ a) .z l=>(M.need (0≤i∧i<List.length l)).bind fun _=>.ret (.faddr a (List.getD l i.toNat a.zv))
 | .own key p=>match getR C s key with
   | some r=>match oP r.o p,getP r.s r.x p with
     | some o,some ⟨.sl _ a,l⟩=>match o with
       |.z=>(M.need (0≤i∧i<List.length l)).bind fun _=>.ret (.faddr a (List.getD l i.toNat a.zv))
       |.own _=>(M.need (0≤i∧i<List.length l)).bind fun _=>.ret (.eaddr key p i.toNat [])
       |_=>.fail
     |_,_=>.fail
   |none=>.fail
 | .sub key p lo hi=>match getR C s key with
   | some r=>match oP r.o p,getP r.s r.x p with
     |some (.own _),some ⟨.sl _ _,_⟩=>(M.need (0≤i∧i<((hi - lo:Nat):Int))).bind fun _=>.ret (.eaddr key p (lo+i.toNat) [])
     |_,_=>.fail
   |none=>.fail
 |_=>.fail
def compV:Nat→Val→Option Val
 |0,.pair a _=>some a
 |n+1,.pair _ b=>compV n b
 |_,_=>none
def compT:Nat→Val→Option Val
 |0,.pair a _=>some a
 |n+1,.pair _ b=>compT n b
 |0,.t (.pair p _) .z x=>some (.t p .z x.1)
 |n+1,.t (.pair _ q) .z x=>compT n (.t q .z x.2)
 |_,_=>none
def hasOwn:Val→Bool
 |.own _ _=>true
 |.pair a b=>hasOwn a||hasOwn b
 |_=>false
def ownPair:Val→Bool
 |.pair a b=>hasOwn a||hasOwn b
 |_=>false
def fieldA (x:Val) (n:Nat):Option Val:=
 match x with
 | .vbox v=>match compV n v with
   |some u=>some (.vbox u)
   |none=>none
 |.baddr key p=>some (.baddr key (p++fieldPath n))
 |.eaddr key p i fp=>some (.eaddr key p i (fp++fieldPath n))
 | .faddr sh x=>match getP sh x (fieldPath n)with
   |some ⟨sh',x'⟩=>some (.faddr sh' x')
   |none=>none
 | .t (.ptr sh) .z x=>match getP sh x (fieldPath n)with
   |some ⟨sh',x'⟩=>some (.faddr sh' x')
   |none=>none
 |_=>none
def loadV (s:St) (t:Option Sh):Val→Option Val
 | .vbox v=>match sameO (shV C s v) t with
   |true=>some v
   |false=>none
 | .faddr sh x=>match same sh t with
   |true=>some (.t sh .z x)
   |false=>none
 | .t (.ptr sh) .z x=>match same sh t with
   |true=>some (.t sh .z x)
   |false=>none
 | .baddr key p=>match getR C s key with
   | some r=>match r.box,oP r.o p,getP r.s r.x p with
     | true,some o,some ⟨sh,x⟩=>match same sh t with
       |true=>some (mkRef key sh o x p)
       |false=>none
     |_,_,_=>none
   |none=>none
 | .eaddr key p i fp=>match getR C s key with
   | some r=>match oP r.o (p ++ .i i::fp),getP r.s r.x (p ++ .i i::fp)with
     | some o,some ⟨sh,x⟩=>match same sh t with
       |true=>some (mkRef key sh o x (p ++ .i i::fp))
       |false=>none
     |_,_=>none
   |none=>none
 |_=>none
def unhole:Sh→Sh
 |.pair a b=>.pair (unhole a) (unhole b)
 |.md a=>a
 |s=>s
def addrSh (s:St):Val→Option Sh
 |.vbox v=>shV C s v
 |.faddr sh _=>some (unhole sh)
 |.t (.ptr sh) .z _=>some (unhole sh)
 | .baddr key p=>match getR C s key with
   | some r=>match r.box with
     |true=>shP r.s p
     |false=>none
   |none=>none
 | .eaddr key p i fp=>match getR C s key with
   |some r=>shP r.s (p ++ .i i::fp)
   |none=>none
 |_=>none
def rowOwn:O→List Step→Bool
 |.pr a _,.f::p=>rowOwn a p
 |.pr _ b,.s::p=>rowOwn b p
 | .own a,.i _::p=>match inner p with
   |true=>rowOwn a p
   |false=>true
 |_,_=>false
def storeV (s:St) (a v:Val):Option St:=
 match takeV C s v with
 |none=>none
 | some (u,s1)=>match a with
   | .baddr key p=>match getR C s1 key with
     | some r=>match r.box,setO r.o p u.o,setP r.s r.x p ⟨u.s,u.x⟩with
       | true,some o',some x'=>match u.s.flat with
         |true=>inRoot C s1 key ⟨r.box,r.inn,r.s,o',x'⟩
         |false=>reRoot C s1 key ⟨r.box,r.box&&r.inn,r.s,o',x'⟩
       |_,_,_=>none
     |none=>none
   | .eaddr key p i fp=>match getR C s1 key with
     | some r=>match setP r.s r.x (p ++ .i i::fp) ⟨u.s,u.x⟩with
       | some x'=>match rowOwn r.o (p ++ .i i::fp),oP r.o (p ++ .i i::fp)with
         | true,some oe=>match u.s.flat&&u.o.alive with
           |true=>reRootI C s1 key ⟨r.box,r.inn,r.s,r.o,x'⟩
           | false=>match fp,meet oe u.o with
             | [],some o2=>match setO r.o p (.own o2)with
               |some o'=>reRootI C s1 key ⟨r.box,r.inn,r.s,o',x'⟩
               |none=>none
             |_,_=>none
         |_,_=>none
       |none=>none
     |none=>none
   |_=>none
def closure (s:St):List Operand→Option Val
 |[]=>some (.t .unit .z ())
 | x::l=>match evalV C s none x,closure s l with
   | some v,some w=>match capOk C s v with
     |true=>some (.pair v w)
     |false=>none
   |_,_=>none
def isNil:Operand→Bool
 |.const (.slice none 0 0)=>true
 |_=>false
def bytesOf (l:List Int):List UInt8:=l.map fun n=>UInt8.ofNat n.toNat
def convV (s:St) (v:Val) (ts us:Option Sh):Option Val:=
 match ts with
 | some (.int k)=>match v,us with
   |.t (.int _) .z n,some (.int _)=>some (.t (.int k) .z (wrapK k n))
   |_,_=>none
 | some .str=>match us with
   | some .str=>match v with
     |.t .str .z n=>some (.t .str .z n)
     |_=>none
   | some (.sl e (.int .u8))=>match view C s v with
     | some ⟨sh,l⟩=>match castD (.sl e (.int .u8)) sh l with
       |some l=>some (.t .str .z (bytesOf l))
       |none=>none
     |none=>none
   |_=>none
 |_=>none
def opV (o:Oper) (d:Nat) (s:St):M (Val×St):=
 let sh:=E.sh o.type
 match o.op with
 | .move x | .assign x=>match evalV C s sh x with
   |some v=>.ret (v,s)
   |none=>.fail
 | .pick c a b=>match evalV C s (some .bool) c with
   | some (.t .bool .z x)=>(M.branch x).bind fun
     | true=>match evalV C s sh a with
       |some v=>.ret (v,s)
       |none=>.fail
     | false=>match evalV C s sh b with
       |some v=>.ret (v,s)
       |none=>.fail
   |_=>.fail
 | .alloc t=>match E.sh t with
   | some a=>match a.plain,newRoot C s d ⟨true,false,a,zo a,a.zv⟩with
     |true,some s'=>.ret (.baddr d [],s')
     |_,_=>.fail
   |none=>.fail
 | .box t x=>match E.sh t with
   | some a=>match evalV C s (some a) x with
     | some v=>match ownPair v with
       | true=>match sameO (shV C s v) (some a)with
         |true=>.ret (.vbox v,s)
         |false=>.fail
       | false=>match takeV C s v with
         | some (u,s1)=>match castD a u.s u.x with
           | some y=>match newRoot C s1 d ⟨true,false,a,u.o,y⟩with
             |some s'=>.ret (.baddr d [],s')
             |none=>.fail
           |none=>.fail
         |none=>.fail
     |none=>.fail
   |none=>.fail
 | .build t parts=>match E.sh t with
   | some a=>match fieldsOf C (fun s sh x=>evalV C s sh x) s a 0 parts.toList with
     |some v=>.ret (v,s)
     |none=>.fail
   |none=>.fail
 | .buildSlice t n parts=>match E.sh t with
   | some (.sl e a)=>match Nat.beq n parts.size&&Nat.ble (n * a.size) 16777216,takeAll C (fun s x=>evalV C s (some a) x) s 0 parts.toList with
     | true,some (us,s1)=>match sameAll a us with
       | some (oe,xs)=>match newRoot C s1 d ⟨false,false,.sl e a,.own oe,xs⟩with
         |some s2=>.ret (.own d [],s2)
         |none=>.fail
       |none=>.fail
     |_,_=>.fail
   |_=>.fail
 | .load t a=>match evalV C s none a with
   | some v=>match loadV C s (E.sh t) v with
     |some w=>.ret (w,s)
     |none=>.fail
   |none=>.fail
 | .store t a x=>match evalV C s none a,evalV C s (E.sh t) x with
   | some v,some w=>match sameO (addrSh C s v) (E.sh t),storeV C s v w with
     |true,some s'=>.ret (.undef,s')
     |_,_=>.fail
   |_,_=>.fail
 | .nilCheck x=>match evalV C s none x with
   | some (.baddr k p)=>match (getR C s k).map (·.box)with
     |some true=>.ret (.baddr k p,s)
     |_=>.fail
   |some (.t (.ptr a) .z y)=>.ret (.t (.ptr a) .z y,s)
   |some (.faddr a y)=>.ret (.faddr a y,s)
   |_=>.fail
 | .binOp op t x y _=>match isNil y with
   | true=>match evalV C s (E.sh t) x with
     | some v=>match view C s v,op,E.sh t with
       |some ⟨.sl _ _,l⟩,.eql,some (.sl _ _)=>fun K=>bcase (List.isEmpty l) (K (.t .bool .z true,s)∧K (.t .bool .z false,s)) (K (.t .bool .z false,s))
       |some ⟨.sl _ _,l⟩,.neq,some (.sl _ _)=>fun K=>bcase (List.isEmpty l) (K (.t .bool .z false,s)∧K (.t .bool .z true,s)) (K (.t .bool .z true,s))
       |_,_,_=>.fail
     |none=>.fail
   | false=>match evalV C s (E.sh t) x,evalV C s (E.sh t) y with
     | some a,some b=>match structEq C s (E.sh t) op a b with
       |some r=>.ret (.t .bool .z r,s)
       | none=>match binOk (E.sh t) a with
         |true=>(binV op a b).bind fun v=>.ret (v,s)
         |false=>.fail
     |_,_=>.fail
 | .unOp op t x=>match op,evalV C s (E.sh t) x with
   |.not,some (.t .bool .z b)=>.ret (.t .bool .z (!(show Bool from b)),s)
   |.neg,some (.t (.int k) .z n)=>.ret (.t (.int k) .z (wrapK k (0 - (show Int from n))),s)
   |_,_=>.fail
 | .convert u t x=>match evalV C s none x with
   | some v=>match convV C s v (E.sh t) (E.sh u)with
     |some w=>.ret (w,s)
     |none=>.fail
   |none=>.fail
 | .makeFunc (.func f) first caps=>match first.size,closure C s caps.toList with
   |0,some v=>.ret (.clo f v,s)
   |_,_=>.fail
 | .makeSlice t n c=>match E.sh t,evalV C s none n,evalV C s none c with
   | some (.sl e a),some (.t (.int _) .z l),some (.t (.int _) .z m)=>match a.plain with
     | true=>(M.need (0≤(show Int from l)∧(show Int from l)≤m∧(show Int from m)≤maxL)).bind fun _=>
       match newRoot C s d ⟨false,false,.sl e a,.own (zo a),List.replicate (show Int from l).toNat a.zv⟩with
       |some s2=>.ret (.own d [],s2)
       |none=>.fail
     |false=>.fail
   |_,_,_=>.fail
 | .slice t x lo hi mx=>match (match mx,(evalV C s none x).map (rowSh C s)with
    |none,some sh=>sameO sh (E.sh t)
    |_,_=>false),evalV C s none x,lo.map (evalV C s none),hi.map (evalV C s none)with
   | true,some (.t .str .z l),lo,hi=>match sliceBnd (List.length l) lo hi with
     | some (a,b)=>(M.need (0≤a∧a≤b∧b≤(List.length l:Int))).bind fun _=>
       .ret (.t .str .z (List.drop a.toNat (List.take b.toNat (show List UInt8 from l))),s)
     |none=>.fail
   | true,some (.t (.sl e a) .z l),lo,hi=>match sliceBnd (List.length l) lo hi with
     | some (x,y)=>(M.need (0≤x∧x≤y∧y≤(List.length l:Int))).bind fun _=>
       .ret (.t (.sl e a) .z (List.drop x.toNat (List.take y.toNat (show List a.den from l))),s)
     |none=>.fail
   | true,some (.own key p),lo,hi=>match getR C s key with
     | some r=>match oP r.o p,getP r.s r.x p with
       | some (.own _),some ⟨.sl _ _,l⟩=>match sliceBnd (List.length l) lo hi with
         |some (x,y)=>(M.need (0≤x∧x≤y∧y≤(List.length l:Int)∧0<(List.length l:Int))).bind fun _=>.ret (.sub key p x.toNat y.toNat,s)
         |none=>.fail
       |_,_=>.fail
     |none=>.fail
   |_,_,_,_=>.fail
 | .fieldAddr t x n=>match evalV C s none x with
   | some v=>match sameO (addrSh C s v) (E.sh t),(E.sh t).bind (fun sh=>shP sh (fieldPath n)),fieldA v n with
     |true,some _,some w=>.ret (w,s)
     |_,_,_=>.fail
   |none=>.fail
 | .field t x n=>match evalV C s none x with
   | some v=>match sameO (shV C s v) (E.sh t),(E.sh t).bind (fun sh=>shP sh (fieldPath n)),compT n v with
     | true,some s',some w=>match sameO (shV C s w) (some s')with
       |true=>.ret (w,s)
       |false=>.fail
     |_,_,_=>.fail
   |none=>.fail
 | .indexAddr t x i=>match evalV C s none x,evalV C s none i with
   | some v,some (.t (.int _) .z n)=>match sameO (unmd (rowSh C s v)) (E.sh t)with
     |true=>(elemAddr C s v n).bind fun w=>.ret (w,s)
     |false=>.fail
   |_,_=>.fail
 | .index t x i=>match evalV C s none x,evalV C s none i,same .str (E.sh t)with
   | some (.t .str .z l),some (.t (.int _) .z n),true=>(M.need (0≤(show Int from n)∧(show Int from n)<(List.length l:Int))).bind fun _=>
     .ret (.t (.int .u8) .z ((List.getD (show List UInt8 from l) (show Int from n).toNat 0).toNat:Int),s)
   |_,_,_=>.fail
 | .extract x n=>match evalV C s none x with
   | some v=>match nth v n with
     |some w=>.ret (w,s)
     |none=>.fail
   |none=>.fail
 | .call c=>match c.callee with
   | .builtin b=>match evalAll C s (c.argTypes.toList.map E.sh) c.args.toList with
     | some vs=>match rowsOk C s b (c.argTypes.toList.map E.sh) vs with
       |true=>builtinV C s b sh d vs
       |false=>.fail
     |none=>.fail
   | .value f=>match evalV C s none f with
     | some fv=>match calleeOf C s fv with
       | some (f,caps)=>match evalAll C s (E.params f) c.args.toList with
         |some vs=>callF E C s f (vs++caps) d
         |none=>.fail
       |none=>.fail
     |none=>.fail
   |_=>.fail
 |_=>.fail
def putM (d:Option Tmp) (r:Val×St):M St:=
 match d with
 |some d=>.of (put C r.2 d r.1)
 |none=>.ret r.2
def dstOf (ops:List Oper) (j:Nat):Option Tmp:=match ops[j]? with
 |some o=>o.dst
 |none=>none
def skipM (d:Option Tmp) (s:St):M St:=
 match d with
 |some d=>.of (put C s d .tnil)
 |none=>.ret s
def opM (all:List Oper) (o:Oper) (s:St):M St:=
 match o.guard with
 |none=>(opV E C o (o.dst.getD 999) s).bind (putM C o.dst)
 | some (j,want)=>match (dstOf all j).bind fun t=>(getT C s t).map fun v=>(t,v)with
   | some (t,.t .bool .z b)=>fun K=>bcase b
     (match put C s t (.t .bool .z true)with
      |none=>False
      | some s1=>match want with
        |true=>(opV E C o (o.dst.getD 999) s1).bind (putM C o.dst) K
        |false=>skipM C o.dst s1 K)
     (match put C s t (.t .bool .z false)with
      |none=>False
      | some s1=>match want with
        |false=>(opV E C o (o.dst.getD 999) s1).bind (putM C o.dst) K
        |true=>skipM C o.dst s1 K)
   |some (_,.tnil)=>skipM C o.dst s
   |_=>.fail
def mdLoad (o:Oper) (d:Nat) (s:St):Option (M (Val×St)):=match o.guard,o.op with
 | none,.load t x=>match evalV C s none x with
   | some (.eaddr key [] n [])=>match look key s.roots with
     | some ⟨false,inn,.sl e (.md a),.own oa,y⟩=>match same a (E.sh t),reRootI C s key ⟨false,inn,.sl e (.md a),.own oa,List.set y n (false,(List.getD y n (true,a.zv)).2)⟩with
       | true,some s1=>match bring d ⟨a,oa,(List.getD y n (true,a.zv)).2⟩with
         |(v,none)=>some ((M.need ((List.getD y n (true,a.zv)).1=true)).bind fun _=>.ret (v,s1))
         | (v,some r)=>match newRoot C s1 d r with
           |some s2=>some ((M.need ((List.getD y n (true,a.zv)).1=true)).bind fun _=>.ret (v,s2))
           |none=>none
       |_,_=>none
     |_=>none
   |_=>none
 |_,_=>none
def stepM (all:List Oper) (o:Oper) (s:St):M St:=match mdLoad E C o (o.dst.getD 999) s with
 |some m=>m.bind (putM C o.dst)
 |none=>opM E C all o s
def opsM (all:List Oper):List Nat→St→M St
 |[],s=>.ret s
 | i::l,s=>match all[i]? with
   |some o=>(stepM E C all o s).bind fun s1=>opsM all l s1
   |none=>.fail
def countUp:Nat→Nat→List Nat
 |_,0=>[]
 |i,n+1=>i::countUp (i+1) n
end
inductive Pl where
 |nil
 |op (i:Nat) (r:Pl)
 |mem (i:Nat) (r:Pl)
 |chk (pk:List Nat) (b r:Pl)
 |late (i:Nat) (r:Pl)
 |now (i:Nat) (r:Pl)
 |soft (k:Nat) (p:List Step) (r:Pl)
 |frz (k:Nat) (r:Pl)
 |drain (t:Nat) (r:Pl)
 |skip (i:Nat) (r:Pl)
 |br (j:Nat) (a b:Pl)
 |memL (i:Nat) (k:Nat) (p:List Step) (k':Nat) (r:Pl)
def lateOp:Op→Bool
 |.alloc _=>true
 |.makeSlice _ _ _=>true
 |.buildSlice _ _ _=>true
 |_=>false
def guardB (all:List Oper) (C s:St) (o:Oper) (w:Bool):Bool:=match o.guard with
 |none=>w
 | some (j,want)=>match (dstOf all j).bind (getT C s)with
   | some (.t .bool .z b)=>match (show Bool from b),want,w with
     |true,true,true=>true
     |false,false,true=>true
     |true,false,false=>true
     |false,true,false=>true
     |_,_,_=>false
   |_=>false
def eqN:List Nat→List Nat→Bool
 |[],[]=>true
 |a::l,b::m=>Nat.beq a b&&eqN l m
 |_,_=>false
def eqB:List Bool→List Bool→Bool
 |[],[]=>true
 | a::l,b::m=>(match a,b with
   |true,true=>true
   |false,false=>true
   |_,_=>false)&&eqB l m
 |_,_=>false
def lateC (C:St) (o:Oper):Bool:=lateOp o.op&&(match o.dst with
 | some d=>(match look d C.tmps with
   |none=>true
   |some _=>false)
 |none=>false)
def dropT (d:Nat):List (Nat×Val)→List (Nat×Val)
 |[]=>[]
 | (k,v)::l=>match Nat.beq k d with
   |true=>dropT d l
   |false=>(k,v)::dropT d l
def clearG (all:List Oper) (s:St):List Nat→Bool
 |[]=>true
 | i::g=>match dstOf all i with
   | some d=>match look d s.tmps with
     |none=>clearG all s g
     |some _=>false
   |none=>false
def remN (i:Nat):List Nat→List Nat
 |[]=>[]
 | k::l=>match Nat.beq k i with
   |true=>remN i l
   |false=>k::remN i l
def gOf:Pl→List Nat→List Nat
 |.nil,G=>G
 |.op _ r,G=>gOf r G
 |.mem _ r,G=>gOf r G
 |.chk _ b r,G=>gOf r (gOf b G)
 |.late i r,G=>gOf r (i::G)
 |.now i r,G=>gOf r (remN i G)
 |.soft _ _ r,G=>gOf r G
 |.frz _ r,G=>gOf r G
 |.drain _ r,G=>gOf r G
 |.skip _ r,G=>gOf r G
 |.br _ a _,G=>gOf a G
 |.memL _ _ _ _ r,G=>gOf r G
def constsR (s:St):List Nat→Option (List (Nat×Root))
 |[]=>some []
 | k::l=>match look k s.roots,constsR s l with
   |some r,some rs=>some ((k,r)::rs)
   |_,_=>none
def delKeys (pk:List Nat):List (Nat×Root)→List (Nat×Root)
 |[]=>[]
 | (k,r)::l=>match memN k pk with
   |true=>delKeys pk l
   |false=>(k,r)::delKeys pk l
def memKeys (C s:St) (o:Oper):Bool:=match memOp o.op with
 | some x=>match evalV C s none x with
   |some v=>(keys v).all fun k=>(look k C.roots).isSome
   |none=>false
 |none=>false
def links:Pl→List Prt
 |.nil=>[]
 |.op _ r=>links r
 |.mem _ r=>links r
 |.chk _ _ r=>links r
 |.late _ r=>links r
 |.now _ r=>links r
 |.soft _ _ r=>links r
 |.frz _ r=>links r
 |.drain _ r=>links r
 |.skip _ r=>links r
 |.br _ _ _=>[]
 |.memL _ k p k' r=>⟨k,p,k'⟩::links r
def splitLs (C:St):St→List Prt→Option St
 |s,[]=>some s
 | s,q::l=>match getR C s q.key with
   | some r=>match shP r.s q.p with
     | some (.sl _ _)=>match splitOne C s q.key q.p q.k with
       |some s1=>splitLs C s1 l
       |none=>none
     |_=>none
   |none=>none
def pathEq:List Step→List Step→Bool
 |[],[]=>true
 |.f::p,.f::q=>pathEq p q
 |.s::p,.s::q=>pathEq p q
 |_,_=>false
def rowS:Sh→Bool
 |.sl _ _=>true
 |_=>false
def memLOk (E:Env) (C s:St) (o:Oper) (k:Nat) (p:List Step) (k':Nat):Bool:=match o.guard,o.op with
 | none,.load t x=>match evalV C s none x,look k C.roots,E.sh t,getR C s k' with
   |some (.baddr j q),some r,some (.sl _ _),some u=>Nat.beq j k&&pathEq q p&&r.box&&(oP r.o p).isSome&&rowS u.s
   |_,_,_,_=>false
 |_,_=>false
def opsP (E:Env) (all:List Oper):Pl→List Nat→(C s:St)→(St→Prop)→Prop
 |.nil,_,_,s,K=>K s
 | .op i r,G,C,s,K=>match all[i]? with
   | some o=>opM E C all o s fun s1=>match clearG all s1 G with
     |true=>opsP E all r G C s1 K
     |false=>False
   |none=>False
 | .mem i r,G,C,s,K=>match all[i]? with
   | some o=>match memKeys C s o with
     | true=>opM E C all o s fun s1=>match clearG all s1 G with
       |true=>opsP E all r G C s1 K
       |false=>False
     |false=>False
   |none=>False
 | .chk pk b r,G,C,s,K=>match splitLs C s (links b)with
   | some s0=>match clearG all s0 G with
     | true=>match constsR s0 pk,nodupN pk with
       |some cr,true=>opsP E all b G ⟨C.tmps,cr++C.roots⟩ ⟨s0.tmps,delKeys pk s0.roots⟩ fun s1=>opsP E all r (gOf b G) C ⟨s1.tmps,s1.roots++cr⟩ K
       |_,_=>False
     |false=>False
   |none=>False
 | .late i r,G,C,s,K=>match all[i]? with
   | some o=>match lateC C o&&guardB all C s o true with
     |true=>opV E C o (o.dst.getD 999) s (fun _=>True)∧opsP E all r (i::G) C ⟨dropT (o.dst.getD 999) s.tmps,s.roots⟩ K
     |false=>False
   |none=>False
 | .now i r,G,C,s,K=>match all[i]? with
   | some o=>match lateC C o with
     | true=>(opV E C o (o.dst.getD 999) s).bind (putM C o.dst) fun s1=>match clearG all s1 (remN i G)with
       |true=>opsP E all r (remN i G) C s1 K
       |false=>False
     |false=>False
   |none=>False
 |.soft _ _ _,_,_,_,_=>False
 |.frz _ _,_,_,_,_=>False
 |.drain _ _,_,_,_,_=>False
 | .skip i r,G,C,s,K=>match all[i]? with
   | some o=>match guardB all C s o false with
     | true=>skipM C o.dst s fun s1=>match clearG all s1 G with
       |true=>opsP E all r G C s1 K
       |false=>False
     |false=>False
   |none=>False
 | .br j a b,G,C,s,K=>match (dstOf all j).bind fun t=>(getT C s t).map fun v=>(t,v)with
   | some (t,.t .bool .z x)=>bcase x
     (match put C s t (.t .bool .z true)with
      | some s1=>match clearG all s1 G with
        |true=>opsP E all a G C s1 K
        |false=>False
      |none=>False)
     (match put C s t (.t .bool .z false)with
      | some s1=>match clearG all s1 G with
        |true=>opsP E all b G C s1 K
        |false=>False
      |none=>False)
   |_=>False
 | .memL i k p k' r,G,C,s,K=>match all[i]? with
   | some o=>match memLOk E C s o k p k' with
     | true=>putM C o.dst (.own k' [],s) fun s1=>match clearG all s1 G with
       |true=>opsP E all r G C s1 K
       |false=>False
     |false=>False
   |none=>False
def deps (i:Nat):List Oper→List Bool→List Bool
 |[],acc=>acc
 |o::l,acc=>deps i l (acc++[o.after.toList.any fun e=>Region.binds .any e&&(Nat.beq e.on i||acc.getD e.on false)])
def readyP (ops:Array Oper) (listed:Array Bool):List Nat:=
 (List.range ops.size).filter fun i=>
  !listed.getD i true&&((ops[i]?).map (·.after.all fun e=>!Region.binds .any e||listed.getD e.on false)).getD false
def looksP (ops:Array Oper) (o:Oper):List Tmp:=
 (o.op.operands.toList.filterMap fun | .tmp t=>some t|_=>none) ++
 (match o.guard with
  |some (g,_)=>((ops[g]?).bind (·.dst)).toList
  |none=>[])
def apartP (ops:Array Oper) (x y:Oper):Bool:=
 (match x.dst with
  |some d=>!(looksP ops y).contains d&&y.dst != some d
  |none=>true) &&
 (match y.dst with
  |some d=>!(looksP ops x).contains d
  |none=>true)
def freeP (ops:Array Oper) (listed:Array Bool) (i:Nat):Bool:=
 match ops[i]? with
 |none=>false
 |some oi=>(List.range ops.size).all fun j=>j == i||listed.getD j true||match ops[j]? with
  |some oj=>oj.after.any (fun e=>Region.binds .any e&&e.on == i)||apartP ops oi oj
  |none=>true
def mems:Pl→List Nat
 |.nil=>[]
 |.op _ r=>mems r
 |.mem i r=>i::mems r
 |.chk _ _ r=>mems r
 |.late _ r=>mems r
 |.now _ r=>mems r
 |.soft _ _ r=>mems r
 |.frz _ r=>mems r
 |.drain _ r=>mems r
 |.skip _ r=>mems r
 |.br _ a b=>mems a++mems b
 |.memL i _ _ _ r=>i::mems r
def only (i:Nat):List Nat→Bool
 |[j]=>Nat.beq j i
 |_=>false
def noneIn (o:Oper) (G:List Nat):Bool:=o.after.toList.all fun e=>!(Region.binds .any e&&memN e.on G)
def apG (ops:Array Oper) (o:Oper) (G:List Nat):Bool:=G.all fun k=>match ops[k]? with
 |some ok=>apartP ops o ok
 |none=>false
def wrOk (ops:Array Oper) (i:Nat) (o:Oper) (L:Array Bool) (G:List Nat):Bool:=(List.range ops.size).all fun j=>Nat.beq j i||(L.getD j false && !memN j G)||match ops[j]? with
 | some oj=>(match oj.dst with
   |some t=>!(looksP ops o).contains t&&o.dst != some t
   |none=>true)
 |none=>true
def ownOk (ops:Array Oper) (o:Oper):Bool:=match o.dst with
 |some d=>!(looksP ops o).contains d
 |none=>false
def waits (ops:Array Oper) (i k:Nat):Bool:=match ops[k]? with
 |some ok=>ok.after.toList.any fun e=>Region.binds .any e&&Nat.beq e.on i
 |none=>false
def plen:Pl→Nat
 |.nil=>0
 |.op _ r=>plen r+1
 |.mem _ r=>plen r+1
 |.chk _ b r=>plen b+plen r
 |.late _ r=>plen r+1
 |.now _ r=>plen r
 |.soft _ _ r=>plen r
 |.frz _ r=>plen r
 |.drain _ r=>plen r
 |.skip _ r=>plen r+1
 |.br _ a _=>plen a
 |.memL _ _ _ _ r=>plen r+1
def rokP (ops:Array Oper):Pl→(head:Bool)→Array Bool→List Nat→Option (Array Bool)
 |.nil,_,L,_=>some L
 | .op i r,head,L,G=>match ops[i]? with
   | some o=>match noneIn o G&&memN i (readyP ops L)with
     | true=>match tmpOp o.op&&freeP ops L i&&apG ops o G with
       |true=>rokP ops r head (L.setIfInBounds i true) G
       | false=>match only i (readyP ops L)with
         |true=>rokP ops r false (L.setIfInBounds i true) G
         |false=>none
     |false=>none
   |none=>none
 | .mem i r,head,L,G=>match ops[i]? with
   | some o=>match head&&memN i (readyP ops L)&&freeP ops L i&&noneIn o G&&apG ops o G with
     |true=>rokP ops r head (L.setIfInBounds i true) G
     |false=>none
   |none=>none
 | .chk _ b r,_,L,G=>match rokP ops b true L G with
   | some L1=>match (mems b).all fun i=>(List.range ops.size).all fun j=>L1.getD j true||(deps i ops.toList []).getD j false with
     |true=>rokP ops r false L1 (gOf b G)
     |false=>none
   |none=>none
 | .late i r,head,L,G=>match ops[i]? with
   | some o=>match lateOp o.op&&memN i (readyP ops L) && !memN i G&&noneIn o G&&ownOk ops o&&wrOk ops i o L G with
     |true=>rokP ops r head (L.setIfInBounds i true) (i::G)
     |false=>none
   |none=>none
 | .now i r,_,L,G=>match memN i G&&(readyP ops L).all (waits ops i)with
   |true=>rokP ops r false L (remN i G)
   |false=>none
 |.soft _ _ _,_,_,_=>none
 |.frz _ _,_,_,_=>none
 |.drain _ _,_,_,_=>none
 | .skip i r,head,L,G=>match ops[i]? with
   | some o=>match noneIn o G&&memN i (readyP ops L)&&freeP ops L i&&apG ops o G with
     |true=>rokP ops r head (L.setIfInBounds i true) G
     |false=>none
   |none=>none
 | .br _ a b,head,L,G=>match head,Nat.beq (plen a) (plen b)&&eqN (gOf a G) (gOf b G),rokP ops a false L G,rokP ops b false L G with
   | false,true,some L1,some L2=>match eqB L1.toList L2.toList with
     |true=>some L1
     |false=>none
   |_,_,_,_=>none
 | .memL i _ _ _ r,head,L,G=>match ops[i]? with
   | some o=>match head&&memN i (readyP ops L)&&freeP ops L i&&noneIn o G&&apG ops o G with
     |true=>rokP ops r head (L.setIfInBounds i true) G
     |false=>none
   |none=>none
def rok (ops:Array Oper) (p:Pl):Bool:=match rokP ops p false (Array.replicate ops.size false) []with
 |some L=>Nat.beq (plen p) ops.size&&(List.range ops.size).all (fun j=>L.getD j true)&&(ops.toList.all fun o=>match o.op with | .select _ _=>false|_=>true)&&(gOf p []).isEmpty
 |none=>false
inductive Ex where
 |normal|exit (id:Nat)|ret
def iterP {α:Type} (B:(α→Prop)→α→Prop):Nat→α→Prop
 |0,_=>False
 |n+1,a=>B (iterP B n) a
def LoopP {α:Type} (B:(α→Prop)→α→Prop) (a:α):Prop:=∃ n,iterP B n a
def constsT (C s:St) (roots:List (Nat×Root)):List Nat→Option (List (Nat×Val))
 |[]=>some []
 | t::l=>match look t s.tmps,constsT C s roots l with
   | some v,some vs=>match fits roots v with
     |true=>some ((t,v)::vs)
     |false=>none
   |_,_=>none
 where
 fits (roots:List (Nat×Root)):Val→Bool
  |.own key _=>(look key roots).isSome
  |.eaddr _ _ _ _=>false
  |.sub _ [] _ _=>true
  |.sub _ (_::_) _ _=>false
  |.pair a b=>fits roots a&&fits roots b
  |.tup a b=>fits roots a&&fits roots b
  |.clo _ c=>fits roots c
  |.vbox c=>fits roots c
  |_=>true
def denT (tail:Type):List (Nat×Sh)→Type
 |[]=>tail
 |(_,sh)::l=>sh.den×denT tail l
def denR:List (Nat×Bool×Bool×Sh×O)→Type
 |[]=>Unit
 |(_,_,_,sh,_)::l=>sh.den×denR l
def Loop.den (L:Loop):Type:=denT (denR L.roots) L.tmps
def keyOf (C s:St) (t:Nat):Option Nat:=match getT C s t with
 |some (.own key [])=>some key
 |_=>none
def srcKey (C s:St) (refs:List (Nat×Nat)) (k:Nat):Option Nat:=match refs with
 |[]=>some k
 | (t,j)::l=>match Nat.beq j k with
   |true=>keyOf C s t
   |false=>srcKey C s l k
def getNil (C s:St) (refs:List (Nat×Nat)) (k:Nat):Option OV:=match refs with
 |[]=>none
 | (t,j)::l=>match Nat.beq j k with
   | true=>match getT C s t with
     |some (.t sh o x)=>some ⟨sh,o,x⟩
     |_=>none
   |false=>getNil C s l k
def isSl:Sh→Bool
 |.sl _ _=>true
 |_=>false
def packR (C s:St) (refs:List (Nat×Nat)):(l:List (Nat×Bool×Bool×Sh×O))→Option (denR l)
 |[]=>some ()
 | (k,box,inn,sh,o)::l=>match getNil C s refs k with
   | some ⟨sh',o',x⟩=>match !box && !inn&&isSl sh&&le o' o,castD sh sh' x,packR C s refs l with
     |true,some y,some ys=>some (y,ys)
     |_,_,_=>none
   | none=>match srcKey C s refs k with
     | some j=>match look j s.roots with
       | some r=>match r.box == box&&(r.inn&&Nat.beq j k) == inn&&(!box||Nat.beq j k)&&le r.o o,castD sh r.s r.x,packR C s refs l with
         |true,some y,some ys=>some (y,ys)
         |_,_,_=>none
       |none=>none
     |none=>none
def packT (C s:St) {α:Type} (tail:Option α):(l:List (Nat×Sh))→Option (denT α l)
 |[]=>tail
 | (t,sh)::l=>match getT C s t with
   | some v=>match view C s v with
     | some ⟨sh',x⟩=>match castD sh sh' x,packT C s tail l with
       |some y,some ys=>some (y,ys)
       |_,_=>none
     |none=>none
   |none=>none
def agree (C s:St) (refs:List (Nat×Nat)):List (Nat×Nat)→Bool
 |[]=>true
 | (t,k)::l=>(match getNil C s refs k with
   |some _=>refs.all fun q=>!Nat.beq q.2 k||Nat.beq q.1 t
   | none=>match keyOf C s t,srcKey C s refs k with
     |some i,some j=>Nat.beq i j
     |_,_=>false)&&agree C s refs l
def agreeI (C s:St) (refs:List (Nat×Nat)) (roots:List (Nat×Bool×Bool×Sh×O)):List (Nat×Nat×List Step)→Bool
 |[]=>true
 | (t,k,p)::l=>(match getT C s t with
   |some (.own j q)=>Nat.beq j k&&pathEq q p
   |_=>false)&&(match getNil C s refs k with
   |some _=>false
   | none=>match srcKey C s refs k with
     |some j=>Nat.beq j k
     |none=>false)&&(roots.all fun r=>!Nat.beq r.1 k||(oP r.2.2.2.2 p).isSome)&&agreeI C s refs roots l
def agreeS (C s:St) (refs:List (Nat×Nat)) (roots:List (Nat×Bool×Bool×Sh×O)):List (Nat×Nat)→Bool
 |[]=>true
 | (_,k)::l=>(match getNil C s refs k with
   |some _=>false
   | none=>match srcKey C s refs k with
     |some j=>Nat.beq j k
     |none=>false)&&(roots.all fun r=>!Nat.beq r.1 k || !r.2.1)&&agreeS C s refs roots l
def drainOne (C s:St) (t:Nat):Option St:=match look t s.tmps with
 | some (.own key [])=>match look key s.roots,look key C.roots,anyRef true key C.tmps with
   |some ⟨false,false,.sl e a,.own oa,x⟩,none,false=>some ⟨upd t (.own key []) (killT true key s.tmps),upd key ⟨false,false,.sl e (.md a),.own oa,List.map (fun y=>(true,y)) x⟩ s.roots⟩
   |_,_,_=>none
 |_=>none
def drain (C:St):St→List Nat→Option St
 |s,[]=>some s
 | s,t::l=>match drainOne C s t with
   |some s1=>drain C s1 l
   |none=>none
def shipOne (C s:St) (t k:Nat):Option St:=match look t s.tmps with
 | some v=>match takeV C s v with
   | some (u,s1)=>match newRoot C s1 k ⟨false,false,u.s,u.o,u.x⟩with
     |some s2=>put C s2 t (mkRef k u.s u.o u.x [])
     |none=>none
   |none=>none
 |none=>none
def ship (C:St):St→List (Nat×Nat)→Option St
 |s,[]=>some s
 | s,(t,k)::l=>match shipOne C s t k with
   |some s1=>ship C s1 l
   |none=>none
def Loop.pack (C s:St) (L:Loop):Option L.den:=match agree C s L.refs L.refs&&agreeI C s L.refs L.roots L.irefs&&agreeS C s L.refs L.roots L.srefs with
 |true=>packT C s (packR C s L.refs L.roots) L.tmps
 |false=>none
def unpackR:(l:List (Nat×Bool×Bool×Sh×O))→denR l→List (Nat×Root)
 |[],_=>[]
 |(k,box,inn,sh,o)::l,a=>(k,⟨box,inn,sh,o,a.1⟩)::unpackR l a.2
def unpackT {α:Type} (f:α→St):(l:List (Nat×Sh))→denT α l→St
 |[],a=>f a
 |(t,sh)::l,a=>⟨(t,.t sh .z a.1)::(unpackT f l a.2).tmps,(unpackT f l a.2).roots⟩
def refsT:List (Nat×Nat)→List (Nat×Val)
 |[]=>[]
 |(t,k)::l=>(t,.own k [])::refsT l
def irefsT:List (Nat×Nat×List Step)→List (Nat×Val)
 |[]=>[]
 |(t,k,p)::l=>(t,.own k p)::irefsT l
def srefsT (rs:List (Nat×Root)):List (Nat×Nat)→List (Nat×Val)
 |[]=>[]
 | (t,k)::l=>(t,match look k rs with
   |some r=>mkRef k r.s r.o r.x []
   |none=>.undef)::srefsT rs l
def Loop.unpack (L:Loop) (a:L.den):St:=unpackT (fun b=>⟨refsT L.refs++irefsT L.irefs++srefsT (unpackR L.roots b) L.srefs,unpackR L.roots b⟩) L.tmps a
def apart (C s:St) (L:Loop):Bool:=
 let fr:=L.tmps.flatMap fun(t,_)=>match getT C s t with
  |some v=>keys v
  |none=>[]
 let ow:=L.roots.map fun r=>(srcKey C s L.refs r.1).getD r.1
 let all:=ow++L.croots
 fr.all (fun k=>!memN k all&&(look k C.roots).isNone)&&nodupN all
def badRef (ok:Bool) (k:Nat):Val→Bool
 |.own key _=>Nat.beq key k
 |.eaddr key _ _ _=>Nat.beq key k
 |.sub key p _ _=>Nat.beq key k && !(ok&&p.isEmpty)
 |.pair a b=>badRef ok k a||badRef ok k b
 |.tup a b=>badRef ok k a||badRef ok k b
 |.clo _ c=>badRef ok k c
 |.vbox c=>badRef ok k c
 |_=>false
def badRefs (ok:Bool) (k:Nat):List (Nat×Val)→Bool
 |[]=>false
 |(_,v)::l=>badRef ok k v||badRefs ok k l
def okL (C:St) (L:Loop):Bool:=
 nodupN L.ctmps&&nodupN (L.roots.map (·.1))&&nodupN (L.tmps.map (·.1)++(L.refs.map (·.1)++L.irefs.map (·.1)++L.srefs.map (·.1))) &&
  L.roots.all (fun r=>!badRefs (r.2.2.1 && !r.2.1) r.1 C.tmps&&(look r.1 C.roots).isNone) &&
  (L.tmps.map (·.1)++(L.refs.map (·.1)++L.irefs.map (·.1)++L.srefs.map (·.1))).all (fun t=>(look t C.tmps).isNone)&&L.refs.all (fun q=>memN q.2 (L.roots.map (·.1)))&&L.irefs.all (fun q=>memN q.2.1 (L.roots.map (·.1)))&&nodupN (L.srefs.map (·.2))
def softK (C s:St) (key:Nat) (p:List Step):Option St:=match getR C s key,look key C.roots,inner p with
 | some r,none,false=>match oP r.o p,shP r.s p with
   | some (.own o1),some (.sl _ _)=>match o1.alive,setO r.o p (.own .z)with
     |true,some o2=>inRoot C s key ⟨r.box,r.inn,r.s,o2,r.x⟩
     |_,_=>none
   |_,_=>none
 |_,_,_=>none
def softL (C:St):St→Pl→Option (St×Pl)
 | s,.soft k p r=>match softK C s k p with
   |some s1=>softL C s1 r
   |none=>none
 | s,.frz k r=>match frzAll C s [k]with
   |some s1=>softL C s1 r
   |none=>none
 | s,.drain t r=>match drainOne C s t with
   |some s1=>softL C s1 r
   |none=>none
 |s,l=>some (s,l)
def merge (D s:St):St:=⟨s.tmps++D.tmps,s.roots++D.roots⟩
section
variable (E:Env) (L:Nat→Option Loop) (pl:Nat→Option Pl)
def ev:Code→(cur:Nat)→(C:St)→(Ex→St→Prop)→St→Prop
 |.skip,_,_,K,s=>K .normal s
 | .region id ops draw,_,C,K,s=>match draw with
   | true=>match pl id with
     | some l=>match softL C s l with
       | some (s1,l1)=>match rok ops l1 with
         |true=>opsP E ops.toList l1 [] C s1 (K .normal)
         |false=>False
       |none=>False
     |none=>False
   | false=>match pl id with
     | some l=>match softL C s l with
       |some (s1,.nil)=>opsM E C ops.toList (countUp 0 ops.size) s1 (K .normal)
       |_=>False
     |none=>opsM E C ops.toList (countUp 0 ops.size) s (K .normal)
 | .seq a b,cur,C,K,s=>ev a cur C (fun e s'=>match e with
   |.normal=>ev b cur C K s'
   |e=>K e s') s
 | .cond c x y,cur,C,K,s=>match evalV C s none c with
   |some (.t .bool .z b)=>bcase b (ev x cur C K s) (ev y cur C K s)
   |_=>False
 | .block id c,_,C,K,s=>ev c id C (fun e s'=>match e with
   | .exit j=>match Nat.beq j id with
     |true=>K .normal s'
     |false=>K (.exit j) s'
   |e=>K e s') s
 |.exit id,_,_,K,s=>K (.exit id) s
 |.ret,_,_,K,s=>K .ret s
 | .loop c,cur,C,K,s=>match L cur with
   |none=>False
   | some l=>match (drain C s l.drains).bind fun s=>ship C s l.srefs with
    |none=>False
    |some s=>match constsR s l.croots with
     |none=>False
     | some cr=>match constsT C s (cr++C.roots) l.ctmps,l.pack C s,apart C s l with
       | some ct,some a0,true=>match okL ⟨ct++C.tmps,cr++C.roots⟩ l with
         | true=>
           LoopP (fun again a=>ev c cur ⟨ct++C.tmps,cr++C.roots⟩ (fun e s'=>match e with
            | .normal=>match ship ⟨ct++C.tmps,cr++C.roots⟩ s' l.srefs with
              | some s''=>match l.pack ⟨ct++C.tmps,cr++C.roots⟩ s'',apart ⟨ct++C.tmps,cr++C.roots⟩ s'' l with
                |some a',true=>again a'
                |_,_=>False
              |none=>False
            |e=>K e (merge ⟨ct,cr⟩ s')) (l.unpack a)) a0
         |false=>False
       |_,_,_=>False
 |_,_,_,_,_=>False
end
end Go.V
namespace Go.V
open Go
def takeEnd (C s:St) (v:Val):Option (OV×St):=match v with
 | .own key p=>match inner p,look key s.roots,look key C.roots,anyRef true key C.tmps with
   | true,some r,none,false=>match r.box||r.inn,oP r.o p,getP r.s r.x p with
     |false,some (.own o),some ⟨.sl e a,x⟩=>some (⟨.sl e a,.own o,x⟩,⟨killT true key s.tmps,del key s.roots⟩)
     |_,_,_=>takeV C s v
   |_,_,_,_=>takeV C s v
 |_=>takeV C s v
def resOf (E:Env) (C:St):St→List ResultVar→List (Sh×O)→Option (List OV×St)
 |s,[],[]=>some ([],s)
 | s,r::rs,(sh,o)::gs=>match (match r with
    |.tmp t=>getT C s t
    | .cell t ty=>match getT C s t with
      |some v=>loadV C s (E.sh ty) v
      |none=>none)with
   | some v=>match takeEnd C s v with
     | some (u,s1)=>match castD sh u.s u.x,le u.o o,resOf E C s1 rs gs with
       |some x,true,some (l,s2)=>some (⟨sh,o,x⟩::l,s2)
       |_,_,_=>none
     |none=>none
   |none=>none
 |_,_,_=>none
def outRow (u:OV):Bool:=match u.s,u.o with
 |.ptr _,.own _=>false
 |_,_=>true
def outOne (u:OV) (o:O) (r:Root):Option OV:=match r.inn,r.box with
 | true,true=>match o,u.s with
   | .own o',.ptr a=>match castD a r.s r.x,le r.o o' && !outRow u with
     |some x,true=>some ⟨.ptr a,.own o',x⟩
     |_,_=>none
   |_,_=>none
 | true,false=>match castD u.s r.s r.x,le r.o o&&outRow u with
   |some x,true=>some ⟨u.s,o,x⟩
   |_,_=>none
 |_,_=>none
def outsOf (s:St):Nat→List OV→List O→Option (List OV)
 |_,[],[]=>some []
 | i,u::us,o::os=>match u.o,o with
   | .z,_=>match outsOf s (i+1) us os with
     |some l=>some (⟨u.s,.z,u.x⟩::l)
     |none=>none
   | _,.dead=>match outsOf s (i+1) us os with
     |some l=>some (⟨u.s,.dead,u.x⟩::l)
     |none=>none
   | _,o=>match look i s.roots with
     | some r=>match outsOf s (i+1) us os with
       | some l=>match outOne u o r with
         |some v=>some (v::l)
         |none=>none
       |none=>none
     |none=>none
 |_,_,_=>none
def retK (E:Env) (res:List ResultVar) (g:Sig) (us:List OV) (K:List OV→List OV→Prop):Ex→St→Prop
 |.exit _,_=>False
 | _,s=>match resOf E ⟨[],[]⟩ s res g.res with
   | some (l,s1)=>match outsOf s1 0 us g.outs with
     |some l'=>K l l'
     |none=>False
   |none=>False
def initS:Nat→List OV→Option St
 |_,[]=>some ⟨[],[]⟩
 | i,u::us=>match initS (i+1) us with
   | some s=>match u.o with
     |.z=>some ⟨(i,.t u.s .z u.x)::s.tmps,s.roots⟩
     | .own o=>match u.s,u.x with
       |.ptr a,x=>some ⟨(i,.baddr i [])::s.tmps,(i,⟨true,true,a,o,x⟩)::s.roots⟩
       |sh,x=>some ⟨(i,mkRef i sh (.own o) x [])::s.tmps,(i,⟨false,true,sh,.own o,x⟩)::s.roots⟩
     |o=>some ⟨(i,mkRef i u.s o u.x [])::s.tmps,(i,⟨false,true,u.s,o,u.x⟩)::s.roots⟩
   |none=>none
def slotsOk (n:Nat):Code→Bool
 | .region _ ops _=>ops.toList.all fun o=>match o.dst with
   |some d=>Nat.blt d n
   |none=>true
 |.seq a b=>slotsOk n a&&slotsOk n b
 |.cond _ x y=>slotsOk n x&&slotsOk n y
 |.block _ c=>slotsOk n c
 |.loop c=>slotsOk n c
 |_=>true
def fnV (E:Env) (L:Nat→Option Loop) (pl:Nat→Option Pl) (f:Func) (g:Sig) (us:List OV) (K:List OV→List OV→Prop):Prop:=
 match f.body,initS 0 us with
 | some c,some s=>match slotsOk f.ntmps c&&Nat.ble us.length f.ntmps with
   |true=>ev E L pl c 0 ⟨[],[]⟩ (retK E f.results.toList g us K) s
   |false=>False
 |_,_=>False
def outD:List (Sh×O)→Type
 |[]=>Unit
 | (sh,o)::l=>match o with
   |.z=>outD l
   |.dead=>outD l
   |.own _=>sh.den×outD l
   |.pr _ _=>sh.den×outD l
def resD (tail:Type):List (Sh×O)→Type
 |[]=>tail
 |(sh,_)::l=>sh.den×resD tail l
def outK:(m:List (Sh×O))→(outD m→Prop)→List OV→Prop
 |[],K,[]=>K ()
 | (sh,o)::m,K,u::us=>match o,K with
   |.z,K=>outK m K us
   |.dead,K=>outK m K us
   | .own _,K=>match castD sh u.s u.x with
     |some x=>outK m (fun r=>K (x,r)) us
     |none=>False
   | .pr _ _,K=>match castD sh u.s u.x with
     |some x=>outK m (fun r=>K (x,r)) us
     |none=>False
 |_,_,_=>False
def resK {tail:Type} (T:(tail→Prop)→List OV→Prop):(l:List (Sh×O))→(resD tail l→Prop)→List OV→List OV→Prop
 |[],K,[],ws=>T K ws
 | (sh,_)::l,K,u::us,ws=>match castD sh u.s u.x with
   |some x=>resK T l (fun r=>K (x,r)) us ws
   |none=>False
 |_,_,_,_=>False
def ansK (l m:List (Sh×O)) (K:resD (outD m) l→Prop) (us ws:List OV):Prop:=resK (outK m) l K us ws
end Go.V
namespace Go.V
open Go
def RepL {α:Type} (R:α→List Value→List Nat→Prop):List α→List Value→List Nat→Prop
 |[],cs,bs=>cs=[]∧bs=[]
 |x::l,cs,bs=>∃ c1 c2 b1 b2,cs=c1++c2∧bs=b1++b2∧R x c1 b1∧RepL R l c2 b2
def CellsAt (w:World) (b off:Nat) (es:List Value):Prop:=
 ∃ cur e fr,w.heap[b]? = some (.cells cur e fr)∧off+es.length≤cur.size∧(cur.toList.drop off).take es.length=es
def Deads (n:Nat) (cs:List Value):Prop:=cs.length=n∧∀ v∈cs,v.oneCell'=true
def Rep (w:World) (fz:Nat→Prop):(s:Sh)→O→s.den→List Value→List Nat→Prop
 |.int k,o,x,cs,bs=>bs=[]∧Deads 1 cs∧(o≠.dead→cs=[.int k x]∧k.min≤(show Int from x)∧(show Int from x)≤k.max)
 |.bool,o,x,cs,bs=>bs=[]∧Deads 1 cs∧(o≠.dead→cs=[.bool x])
 |.str,o,x,cs,bs=>bs=[]∧Deads 1 cs∧(o≠.dead→cs=[.string ⟨List.toArray x⟩]∧List.length x≤maxLen)
 |.unit,_,_,cs,bs=>bs=[]∧cs=[]
 | .pair a b,o,x,cs,bs=>match o with
   |.pr oa ob=>∃ c1 c2 b1 b2,cs=c1++c2∧bs=b1++b2∧Rep w fz a oa x.1 c1 b1∧Rep w fz b ob x.2 c2 b2
   |.z=>∃ c1 c2,cs=c1++c2∧bs=[]∧Rep w fz a .z x.1 c1 []∧Rep w fz b .z x.2 c2 []
   |.dead=>bs=[]∧Deads (a.size+b.size) cs
   |.own _=>False
 | .sl e a,o,x,cs,bs=>match o with
   |.z=>∃ A cap es,cs=[.slice A (List.length x) cap]∧bs=[]∧List.length x≤cap∧cap≤maxLen∧
    RepL (Rep w fz a .z) x es []∧(x=([]:List a.den)∨∃ b off,A=some ⟨b,off,none⟩∧fz b∧CellsAt w b off es)
   |.own oa=>∃ v es ebs,cs=[v]∧RepL (Rep w fz a oa) x es ebs∧
    ((v = .slice none 0 0∧x=([]:List a.den)∧bs=[])∨
      ∃ g cap cur,v = .slice (some ⟨g,0,none⟩) (List.length x) cap∧w.heap[g]? = some (.cells cur e (0,0))∧List.length x≤cap∧cap≤maxLen∧
       cur.size=cap * a.size∧cur.toList.take (List.length x * a.size)=es∧bs=g::ebs)
   |.dead=>bs=[]∧Deads 1 cs
   |.pr _ _=>False
 | .ptr a,o,x,cs,bs=>match o with
   |.z=>∃ b off es,cs=[.pointer (some ⟨b,off,none⟩)]∧bs=[]∧fz b∧Rep w fz a .z x es []∧CellsAt w b off es
   |.own oa=>∃ g cur e ebs,cs=[.pointer (some ⟨g,0,none⟩)]∧w.heap[g]? = some (.cells cur e (0,0))∧Rep w fz a oa x cur.toList ebs∧bs=g::ebs
   |.dead=>bs=[]∧Deads 1 cs
   |.pr _ _=>False
 | .fn f c,o,x,cs,bs=>match o with
   |.dead=>bs=[]∧Deads 1 cs
   |o=>∃ ccs,cs=[.func (.func f) #[] (List.toArray ccs)]∧Rep w fz c o x ccs bs
 |.tok a b,o,x,cs,bs=>bs=[]∧Deads (a.size+b.size) cs∧(o≠.dead→cs=x.1.1∧∃ c1 c2,cs=c1++c2∧Rep w fz a .z x.2.1 c1 []∧Rep w fz b .z x.2.2 c2 [])
 | .md a,o,x,cs,bs=>match x.1 with
   |true=>Rep w fz a o x.2 cs bs
   |false=>bs=[]∧Deads a.size cs
theorem RepL.mono {α:Type} {R S:α→List Value→List Nat→Prop} {l:List α}:∀ {cs bs},RepL R l cs bs→
  (∀ x∈l,∀ c b,(∀ i∈b,i∈bs)→R x c b→S x c b)→RepL S l cs bs:=by
 induction l with
 |nil=>intro cs bs h _;exact h
 | cons x l ih=>
   rintro cs bs ⟨c1,c2,b1,b2,rfl,rfl,h1,h2⟩ H
   exact⟨c1,c2,b1,b2,rfl,rfl,H x (by simp) _ _ (by intro i hi;simp[hi]) h1,ih h2 fun y hy c b hb hr=>H y (by simp[hy]) c b (fun i hi=>by simp[hb i hi]) hr⟩
theorem RepL.len {α:Type} {R:α→List Value→List Nat→Prop} {n:Nat} {l:List α}:∀ {cs bs},RepL R l cs bs→
  (∀ x c b,R x c b→c.length=n)→cs.length=l.length * n:=by
 induction l with
 |nil=>rintro cs bs ⟨rfl,rfl⟩ _;simp
 | cons x l ih=>
   rintro cs bs ⟨c1,c2,b1,b2,rfl,rfl,h1,h2⟩ H
   simp[H _ _ _ h1,ih h2 H,Nat.add_mul,Nat.add_comm]
theorem Rep.len {w:World} {fz:Nat→Prop}:∀ {s:Sh} {o:O} {x:s.den} {cs bs},Rep w fz s o x cs bs→cs.length=s.size:=by
 intro s
 induction s with
 |int k=>intro o x cs bs h;exact h.2.1.1
 |bool=>intro o x cs bs h;exact h.2.1.1
 |str=>intro o x cs bs h;exact h.2.1.1
 |unit=>intro o x cs bs h;simp[h.2,Sh.size]
 | pair a b iha ihb=>
   intro o x cs bs h
   cases o with
   |z=>obtain⟨c1,c2,rfl,_,h1,h2⟩:=h;simp[Sh.size,iha h1,ihb h2]
   |pr oa ob=>obtain⟨c1,c2,b1,b2,rfl,_,h1,h2⟩:=h;simp[Sh.size,iha h1,ihb h2]
   |dead=>exact h.2.1
   |own _=>exact h.elim
 | sl e a ih=>
   intro o x cs bs h
   cases o with
   |z=>obtain⟨A,cap,es,rfl,_⟩:=h;rfl
   |own _=>obtain⟨v,es,ebs,rfl,_⟩:=h;rfl
   |dead=>exact h.2.1
   |pr _ _=>exact h.elim
 | ptr a ih=>
   intro o x cs bs h
   cases o with
   |z=>obtain⟨b,off,es,rfl,_⟩:=h;rfl
   |own _=>obtain⟨g,cur,e,ebs,rfl,_⟩:=h;rfl
   |dead=>exact h.2.1
   |pr _ _=>exact h.elim
 | fn f c ih=>
   intro o x cs bs h
   cases o<;>first|exact h.2.1|(obtain⟨ccs,rfl,_⟩:=h;rfl)
 |tok a b _ _=>intro o x cs bs h;exact h.2.1.1
 | md a ih=>
   intro o x cs bs h
   obtain⟨b,y⟩:=x
   cases b with
   |false=>exact h.2.1
   |true=>exact ih h
theorem CellsAt.stable {w w':World} {b off:Nat} {es:List Value} (h:CellsAt w b off es) (hb:w'.heap[b]? = w.heap[b]?):CellsAt w' b off es:=by
 obtain⟨cur,e,fr,h1,h2⟩:=h
 exact⟨cur,e,fr,by rw[hb,h1],h2⟩
theorem Rep.stable {w w':World} {fz fz':Nat→Prop} (hf:∀ b,fz b→fz' b∧w'.heap[b]? = w.heap[b]?) :
  ∀ {s:Sh} {o:O} {x:s.den} {cs bs},Rep w fz s o x cs bs→(∀ b∈bs,w'.heap[b]? = w.heap[b]?)→Rep w' fz' s o x cs bs:=by
 intro s
 induction s with
 |int k=>intro o x cs bs h _;exact h
 |bool=>intro o x cs bs h _;exact h
 |str=>intro o x cs bs h _;exact h
 |unit=>intro o x cs bs h _;exact h
 | pair a b iha ihb=>
   intro o x cs bs h hb
   cases o with
   |z=>obtain⟨c1,c2,h0,h1,h2,h3⟩:=h;exact⟨c1,c2,h0,h1,iha h2 (by simp),ihb h3 (by simp)⟩
   | pr oa ob=>
     obtain⟨c1,c2,b1,b2,h0,rfl,h2,h3⟩:=h
     exact⟨c1,c2,b1,b2,h0,rfl,iha h2 fun i hi=>hb i (by simp[hi]),ihb h3 fun i hi=>hb i (by simp[hi])⟩
   |dead=>exact h
   |own _=>exact h.elim
 | sl e a ih=>
   intro o x cs bs h hb
   cases o with
   | z=>
     obtain⟨A,cap,es,h0,h1,h2,h3,h4,h5⟩:=h
     refine⟨A,cap,es,h0,h1,h2,h3,h4.mono fun x _ c b hb' hr=>ih hr fun i hi=>(by simpa using hb' i hi),h5.imp id ?_⟩
     rintro⟨b,off,hA,hz,hc⟩
     exact⟨b,off,hA,(hf b hz).1,hc.stable (hf b hz).2⟩
   | own oa=>
     obtain⟨v,es,ebs,h0,h1,h2⟩:=h
     rcases h2 with⟨h2,hx,h3⟩|⟨g,cap,cur,h2,h3,h4,h5,h6,h7,rfl⟩
     · have hx':x=([]:List a.den):=hx
       subst hx'
       exact⟨v,es,ebs,h0,h1.mono fun y hy=>(by simp at hy),Or.inl ⟨h2,rfl,h3⟩⟩
     · refine⟨v,es,ebs,h0,h1.mono fun x _ c b hb' hr=>ih hr fun i hi=>hb i (by simp[hb' i hi]),Or.inr ⟨g,cap,cur,h2,?_,h4,h5,h6,h7,rfl⟩⟩
       rw[hb g (by simp),h3]
   |dead=>exact h
   |pr _ _=>exact h.elim
 | ptr a ih=>
   intro o x cs bs h hb
   cases o with
   | z=>
     obtain⟨b,off,es,h0,h1,h2,h3,h4⟩:=h
     exact⟨b,off,es,h0,h1,(hf b h2).1,ih h3 (by simp),h4.stable (hf b h2).2⟩
   | own oa=>
     obtain⟨g,cur,e,ebs,h0,h1,h2,rfl⟩:=h
     exact⟨g,cur,e,ebs,h0,by rw[hb g (by simp),h1],ih h2 fun i hi=>hb i (by simp[hi]),rfl⟩
   |dead=>exact h
   |pr _ _=>exact h.elim
 | fn f c ih=>
   intro o x cs bs h hb
   cases o<;>first|exact h|(obtain⟨ccs,h0,h1⟩:=h;exact⟨ccs,h0,ih h1 hb⟩)
 | tok a b iha ihb=>
   intro o x cs bs h _
   refine⟨h.1,h.2.1,fun ho=>?_⟩
   obtain⟨e1,c1,c2,e2,h1,h2⟩:=h.2.2 ho
   exact⟨e1,c1,c2,e2,iha h1 (by simp),ihb h2 (by simp)⟩
 | md a ih=>
   intro o x cs bs h hb
   obtain⟨b,y⟩:=x
   cases b with
   |false=>exact h
   |true=>exact ih h hb
theorem Rep.dead {w:World} {fz:Nat→Prop} {s:Sh} (x:s.den) {cs:List Value} (h:cs.length=s.size) (h1:∀ v∈cs,v.oneCell'=true):Rep w fz s .dead x cs []:=by
 induction s with
 |unit=>exact⟨rfl,List.eq_nil_of_length_eq_zero h⟩
 |int k=>exact⟨rfl,⟨h,h1⟩,fun h=>absurd rfl h⟩
 |bool=>exact⟨rfl,⟨h,h1⟩,fun h=>absurd rfl h⟩
 |str=>exact⟨rfl,⟨h,h1⟩,fun h=>absurd rfl h⟩
 |pair a b _ _=>exact⟨rfl,⟨h,h1⟩⟩
 |sl e a _=>exact⟨rfl,⟨h,h1⟩⟩
 |ptr a _=>exact⟨rfl,⟨h,h1⟩⟩
 |fn f c _=>exact⟨rfl,⟨h,h1⟩⟩
 |tok a b _ _=>exact⟨rfl,⟨h,h1⟩,fun h=>absurd rfl h⟩
 | md a ih=>
   obtain⟨b,y⟩:=x
   cases b with
   |false=>exact⟨rfl,h,h1⟩
   |true=>exact ih y h
theorem Rep.one {w:World} {fz:Nat→Prop}:∀ {s:Sh} {o:O} {x:s.den} {cs bs},Rep w fz s o x cs bs→∀ v∈cs,v.oneCell'=true:=by
 intro s
 induction s with
 |int k=>intro o x cs bs h;exact h.2.1.2
 |bool=>intro o x cs bs h;exact h.2.1.2
 |str=>intro o x cs bs h;exact h.2.1.2
 |unit=>intro o x cs bs h;simp[h.2]
 | pair a b iha ihb=>
   intro o x cs bs h
   cases o with
   |z=>obtain⟨c1,c2,rfl,_,h1,h2⟩:=h;intro v hv;rcases List.mem_append.mp hv with h|h;exact iha h1 v h;exact ihb h2 v h
   |pr oa ob=>obtain⟨c1,c2,b1,b2,rfl,_,h1,h2⟩:=h;intro v hv;rcases List.mem_append.mp hv with h|h;exact iha h1 v h;exact ihb h2 v h
   |dead=>exact h.2.2
   |own _=>exact h.elim
 | sl e a ih=>
   intro o x cs bs h
   cases o with
   |z=>obtain⟨A,cap,es,rfl,_⟩:=h;simp[Value.oneCell']
   | own _=>
     obtain⟨v,es,ebs,rfl,_,h⟩:=h
     rcases h with⟨rfl,_⟩|⟨g,cap,cur,rfl,_⟩<;>simp[Value.oneCell']
   |dead=>exact h.2.2
   |pr _ _=>exact h.elim
 | ptr a ih=>
   intro o x cs bs h
   cases o with
   |z=>obtain⟨b,off,es,rfl,_⟩:=h;simp[Value.oneCell']
   |own _=>obtain⟨g,cur,e,ebs,rfl,_⟩:=h;simp[Value.oneCell']
   |dead=>exact h.2.2
   |pr _ _=>exact h.elim
 | fn f c ih=>
   intro o x cs bs h
   cases o<;>first|exact h.2.2|(obtain⟨ccs,rfl,_⟩:=h;simp[Value.oneCell'])
 |tok a b _ _=>intro o x cs bs h;exact h.2.1.2
 | md a ih=>
   intro o x cs bs h
   obtain⟨b,y⟩:=x
   cases b with
   |false=>exact h.2.2
   |true=>exact ih h
end Go.V
namespace Go.V
open Go
def readC (w:World) (b off n:Nat):Option (List Value):=
 match w.heap[b]? with
 |some (.cells cur _ _)=>if off+n≤cur.size then some ((cur.toList.drop off).take n)else none
 |_=>none
def cellsP (w:World):Sh→List Value→List Step→Option (List Value)
 |_,cs,[]=>some cs
 |.pair a _,cs,.f::p=>cellsP w a (cs.take a.size) p
 |.pair a b,cs,.s::p=>cellsP w b (cs.drop a.size) p
 | .sl _ a,cs,.i n::p=>match cs with
   | [.slice (some ad) _ _]=>match readC w ad.block (ad.off+n * a.size) a.size with
     |some c=>cellsP w a c p
     |none=>none
   |_=>none
 |_,_,_=>none
def InB:(s:Sh)→s.den→List Step→Prop
 |_,_,[]=>True
 |.pair a _,x,.f::p=>InB a x.1 p
 |.pair _ b,x,.s::p=>InB b x.2 p
 |.sl _ a,x,.i n::p=>n<List.length x∧InB a (List.getD x n a.zv) p
 |_,_,_=>False
def locP:Sh→List Step→Option Nat
 |_,[]=>some 0
 |.pair a _,.f::p=>locP a p
 |.pair a b,.s::p=>(locP b p).map (a.size + ·)
 |_,_=>none
theorem RepL.nth {α:Type} {R:α→List Value→List Nat→Prop} {k:Nat} (d:α) {l:List α}:∀ {cs bs n},RepL R l cs bs→n<l.length→
  (∀ x c b,R x c b→c.length=k)→∃ bn,R (l.getD n d) ((cs.drop (n * k)).take k) bn∧∀ i∈bn,i∈bs:=by
 induction l with
 |nil=>intro cs bs n _ h;simp at h
 | cons x l ih=>
   rintro cs bs n ⟨c1,c2,b1,b2,rfl,rfl,h1,h2⟩ hn H
   have hl:=H _ _ _ h1
   cases n with
   |zero=>exact⟨b1,by simpa [hl]using h1,by simp +contextual⟩
   | succ n=>
     obtain⟨bn,hr,hi⟩:=ih (n:=n) h2 (by simpa using hn) H
     refine⟨bn,?_,fun i h=>by simp[hi i h]⟩
     have:(n+1) * k=c1.length+n * k:=by rw[hl,Nat.add_mul];omega
     rw[List.getD_cons_succ,this,List.drop_append,List.drop_of_length_le (by omega)]
     simpa using hr
theorem readC_of {w:World} {b off n:Nat} {cur:Array Value} {e:TypeId} {fr:Nat×Nat} (h:w.heap[b]? = some (.cells cur e fr)) (hn:off+n≤cur.size) :
  readC w b off n=some ((cur.toList.drop off).take n):=by
 simp[readC,h,hn]
theorem CellsAt.read {w:World} {b off:Nat} {es:List Value} (h:CellsAt w b off es) {i n:Nat} (hi:i+n≤es.length) :
  readC w b (off+i) n=some ((es.drop i).take n):=by
 obtain⟨cur,e,fr,h1,h2,h3⟩:=h
 rw[readC_of h1 (by omega)]
 congr 1
 rw[←h3,List.drop_take,List.take_take,Nat.min_eq_left (by rw[h3]at *;omega),List.drop_drop]
theorem Rep.get {w:World} {fz:Nat→Prop}:∀ {p:List Step} {s:Sh} {o:O} {x:s.den} {cs bs} {s':Sh} {x':s'.den} {o':O},
  Rep w fz s o x cs bs→getP s x p=some ⟨s',x'⟩→oP o p=some o'→InB s x p→
  ∃ cs' bs',cellsP w s cs p=some cs'∧Rep w fz s' o' x' cs' bs'∧∀ b∈bs',b∈bs:=by
 intro p
 induction p with
 | nil=>
   intro s o x cs bs s' x' o' h hg ho _
   cases s<;>cases o<;>simp[getP,oP]at hg ho<;>obtain⟨rfl,hx⟩:=hg<;>cases hx<;>cases ho<;>exact⟨cs,bs,rfl,h,fun _ h=>h⟩
 | cons q p ih=>
   intro s o x cs bs s' x' o' h hg ho hin
   cases q with
   | f=>
     cases s<;>try (simp[getP]at hg;done)
     rename_i a b
     cases o with
     | z=>
       obtain⟨c1,c2,rfl,rfl,h1,h2⟩:=h
       obtain⟨cs',bs',e1,e2,e3⟩:=ih h1 hg (by simpa [oP]using ho) hin
       exact⟨cs',bs',by simp only[cellsP];rw[List.take_left' h1.len];exact e1,e2,e3⟩
     | pr oa ob=>
       obtain⟨c1,c2,b1,b2,rfl,rfl,h1,h2⟩:=h
       obtain⟨cs',bs',e1,e2,e3⟩:=ih h1 hg (by simpa [oP]using ho) hin
       exact⟨cs',bs',by simp only[cellsP];rw[List.take_left' h1.len];exact e1,e2,fun i hi=>by simp[e3 i hi]⟩
     |dead=>simp[oP]at ho
     |own _=>exact h.elim
   | s=>
     cases s<;>try (simp[getP]at hg;done)
     rename_i a b
     cases o with
     | z=>
       obtain⟨c1,c2,rfl,rfl,h1,h2⟩:=h
       obtain⟨cs',bs',e1,e2,e3⟩:=ih h2 hg (by simpa [oP]using ho) hin
       exact⟨cs',bs',by simp only[cellsP];rw[List.drop_left' h1.len];exact e1,e2,e3⟩
     | pr oa ob=>
       obtain⟨c1,c2,b1,b2,rfl,rfl,h1,h2⟩:=h
       obtain⟨cs',bs',e1,e2,e3⟩:=ih h2 hg (by simpa [oP]using ho) hin
       exact⟨cs',bs',by simp only[cellsP];rw[List.drop_left' h1.len];exact e1,e2,fun i hi=>by simp[e3 i hi]⟩
     |dead=>simp[oP]at ho
     |own _=>exact h.elim
   | i n=>
     cases s<;>try (simp[getP]at hg;done)
     rename_i e a
     obtain⟨hn,hin⟩:=hin
     cases o with
     | z=>
       obtain⟨A,cap,es,rfl,rfl,h2,h3,h4,h5⟩:=h
       rcases h5 with rfl|⟨b,off,rfl,hz,hc⟩
       · simp at hn
       · have hlen:=h4.len fun _ _ _ hr=>hr.len
         obtain⟨bn,hr,hi⟩:=h4.nth a.zv hn fun _ _ _ hr=>hr.len
         obtain⟨cs',bs',e1,e2,e3⟩:=ih hr hg (by simpa [oP]using ho) hin
         refine⟨cs',bs',?_,e2,fun i h=>hi i (e3 i h)⟩
         simp only[cellsP]
         rw [hc.read (by rw[hlen];calc n * a.size+a.size=(n+1) * a.size:=by rw[Nat.add_mul];omega
             _≤_:=Nat.mul_le_mul_right _ hn)]
         exact e1
     | own oa=>
       obtain⟨v,es,ebs,rfl,h1,h2⟩:=h
       rcases h2 with⟨_,rfl,_⟩|⟨g,cap,cur,rfl,h3,h4,h5,h6,h7,rfl⟩
       · simp at hn
       · obtain⟨bn,hr,hi⟩:=h1.nth a.zv hn fun _ _ _ hr=>hr.len
         obtain⟨cs',bs',e1,e2,e3⟩:=ih hr hg (by simpa [oP]using ho) hin
         refine⟨cs',bs',?_,e2,fun i h=>by simp[hi i (e3 i h)]⟩
         have hle:n * a.size+a.size≤List.length x * a.size:=by
          calc n * a.size+a.size=(n+1) * a.size:=by rw[Nat.add_mul];omega
           _≤_:=Nat.mul_le_mul_right _ hn
         simp only[cellsP]
         rw[readC_of h3 (by rw[h6];have:=Nat.mul_le_mul_right a.size h4;omega)]
         simp only[Nat.zero_add]
         have:(cur.toList.drop (n * a.size)).take a.size=(es.drop (n * a.size)).take a.size:=by
          rw[←h7,List.drop_take,List.take_take,Nat.min_eq_left (by omega)]
         rw[this];exact e1
     |dead=>simp[oP]at ho
     |pr _ _=>exact h.elim
end Go.V
namespace Go.V
open Go
theorem castD_self (s:Sh) (y:s.den):castD s s y=some y:=by
 unfold castD
 split
 · rfl
 · rename_i h _;exact absurd rfl h
theorem castD_some {s s':Sh} {y:s'.den} {x:s.den} (h:castD s s' y=some x):∃ e:s'=s,x=e ▸ y:=by
 unfold castD at h
 split at h
 · rename_i e _;exact⟨e,by simpa using h.symm⟩
 · simp at h
theorem Rep.z_nil {w:World} {fz:Nat→Prop}:∀ {s:Sh} {x:s.den} {cs bs},Rep w fz s .z x cs bs→bs=[]:=by
 intro s
 induction s with
 |int k=>intro x cs bs h;exact h.1
 |bool=>intro x cs bs h;exact h.1
 |str=>intro x cs bs h;exact h.1
 |unit=>intro x cs bs h;exact h.1
 |pair a b _ _=>rintro x cs bs ⟨c1,c2,_,h,_⟩;exact h
 |sl e a _=>rintro x cs bs ⟨A,cap,es,_,h,_⟩;exact h
 |ptr a _=>rintro x cs bs ⟨b,off,es,_,h,_⟩;exact h
 |fn f c ih=>intro x cs bs h;obtain⟨ccs,_,h⟩:=h;exact ih h
 |tok a b _ _=>intro x cs bs h;exact h.1
 | md a ih=>
   intro x cs bs h
   obtain⟨b,y⟩:=x
   cases b with
   |false=>exact h.1
   |true=>exact ih h
theorem Rep.przIff {w:World} {fz:Nat→Prop} {a b:Sh} {oa ob:O} {x:(Sh.pair a b).den} {cs bs} :
  Rep w fz (.pair a b) (prz oa ob) x cs bs↔Rep w fz (.pair a b) (.pr oa ob) x cs bs:=by
 cases oa<;>cases ob<;>try exact Iff.rfl
 constructor
 · rintro⟨c1,c2,rfl,rfl,h1,h2⟩;exact⟨c1,c2,[],[],rfl,rfl,h1,h2⟩
 · rintro⟨c1,c2,b1,b2,rfl,rfl,h1,h2⟩
   have e1:=h1.z_nil;have e2:=h2.z_nil;subst e1;subst e2
   exact⟨c1,c2,rfl,rfl,h1,h2⟩
def repl (off:Nat) (c2 cs:List Value):List Value:=cs.take off++c2++cs.drop (off+c2.length)
theorem repl_app_left {off:Nat} {c2 c1 d:List Value} (h:off+c2.length≤c1.length):repl off c2 (c1++d)=repl off c2 c1++d:=by
 unfold repl
 rw[List.take_append_of_le_length (by omega),List.drop_append_of_le_length (by omega)]
 simp
theorem repl_app_right {off:Nat} {c2 c1 d:List Value}:repl (c1.length+off) c2 (c1++d)=c1++repl off c2 d:=by
 unfold repl
 rw[List.take_length_add_append,show c1.length+off+c2.length=c1.length+(off+c2.length) by omega,List.drop_length_add_append]
 simp
theorem Rep.pair {w:World} {fz:Nat→Prop} {a b:Sh} {o:O} {x:(Sh.pair a b).den} {cs bs} (h:Rep w fz (.pair a b) o x cs bs) (hd:o≠.dead) :
  ∃ oa ob c1 c2 b1 b2,(o = .z∧oa = .z∧ob = .z∨o = .pr oa ob)∧cs=c1++c2∧bs=b1++b2∧Rep w fz a oa x.1 c1 b1∧Rep w fz b ob x.2 c2 b2:=by
 cases o with
 |z=>obtain⟨c1,c2,h0,rfl,h1,h2⟩:=h;exact⟨.z,.z,c1,c2,[],[],.inl ⟨rfl,rfl,rfl⟩,h0,rfl,h1,h2⟩
 |pr oa ob=>obtain⟨c1,c2,b1,b2,h0,h3,h1,h2⟩:=h;exact⟨oa,ob,c1,c2,b1,b2,.inr rfl,h0,h3,h1,h2⟩
 |dead=>exact absurd rfl hd
 |own _=>exact h.elim
theorem Rep.setField {w:World} {fz:Nat→Prop}:∀ {p:List Step} {s:Sh} {o:O} {x:s.den} {cs bs} {s':Sh} {x':s'.den} {o':O},
  Rep w fz s o x cs bs→inner p=false→getP s x p=some ⟨s',x'⟩→oP o p=some o'→
  ∃ off cs' bs' rest,locP s p=some off∧cellsP w s cs p=some cs'∧off+s'.size≤cs.length∧(cs.drop off).take s'.size=cs'∧Rep w fz s' o' x' cs' bs'∧bs.Perm (bs'++rest)∧
   ∀(w1:World) (fz1:Nat→Prop) (o2:O) (x2:s'.den) (cs2:List Value) (bs2:List Nat) (o3:O),
    (∀ b,fz b→fz1 b∧w1.heap[b]? = w.heap[b]?)→(∀ b∈rest,w1.heap[b]? = w.heap[b]?)→Rep w1 fz1 s' o2 x2 cs2 bs2→setO o p o2=some o3→
    ∃ x3 bsn,setP s x p ⟨s',x2⟩=some x3∧Rep w1 fz1 s o3 x3 (repl off cs2 cs) bsn∧bsn.Perm (bs2++rest):=by
 intro p
 induction p with
 | nil=>
   intro s o x cs bs s' x' o' h _ hg ho
   have hg':(⟨s,x⟩:TV)=⟨s',x'⟩:=by cases s<;>simpa [getP]using hg
   have ho':o=o':=by cases o<;>simpa [oP]using ho
   cases hg'
   subst ho'
   have hl:=h.len
   refine⟨0,cs,bs,[],by cases s<;>rfl,by cases s<;>rfl,by omega,by simp[←hl],h,by simp,?_⟩
   intro w1 fz1 o2 x2 cs2 bs2 o3 hf _ hr hs
   have:o2=o3:=by cases o<;>simpa [setO]using hs
   subst this
   refine⟨x2,bs2,?_,?_,by simp⟩
   · cases s<;>simp[setP,castD_self]
   · simpa [repl,hr.len,←hl]using hr
 | cons q p ih=>
   intro s o x cs bs s' x' o' h hn hg ho
   cases q with
   | f=>
     cases s<;>try (simp[getP]at hg;done)
     rename_i a b
     have hd:o≠.dead:=by rintro rfl;simp[oP]at ho
     obtain⟨oa,ob,c1,c2,b1,b2,hoo,rfl,rfl,h1,h2⟩:=h.pair hd
     have hoa:oP oa p=some o':=by rcases hoo with⟨rfl,rfl,rfl⟩|rfl<;>simpa [oP]using ho
     obtain⟨off,cs',bs',rest,e1,e2,e3,e4,e5,e6,e7⟩:=ih h1 (by simpa [inner]using hn) hg hoa
     refine⟨off,cs',bs',rest++b2,by simpa [locP]using e1,?_,by rw[List.length_append];omega,?_,e5,?_,?_⟩
     · simp only[cellsP];rw[List.take_left' h1.len];exact e2
     · rw[List.drop_append_of_le_length (by omega),List.take_append_of_le_length (by rw[List.length_drop];omega)];exact e4
     · rw[←List.append_assoc];exact e6.append_right b2
     · intro w1 fz1 o2 x2 cs2 bs2 o3 hf hrest hr hs
       obtain⟨o4,hs4,rfl⟩:∃ o4,setO oa p o2=some o4∧o3=prz o4 ob:=by
        rcases hoo with⟨rfl,rfl,rfl⟩|rfl
        · simp only[setO,Option.map_eq_some_iff]at hs;obtain⟨y,hy,rfl⟩:=hs;exact⟨y,hy,rfl⟩
        · simp only[setO,Option.map_eq_some_iff]at hs;obtain⟨y,hy,rfl⟩:=hs;exact⟨y,hy,rfl⟩
       obtain⟨x3,bsn,g1,g2,g3⟩:=e7 w1 fz1 o2 x2 cs2 bs2 o4 hf (fun i hi=>hrest i (by simp[hi])) hr hs4
       have hcl:cs2.length=s'.size:=hr.len
       refine⟨(x3,x.2),bsn++b2,by simp only[setP,g1];rfl,?_,?_⟩
       · refine Rep.przIff.mpr ?_;rw[repl_app_left (by omega)]
         exact⟨_,c2,bsn,b2,rfl,rfl,g2,h2.stable hf fun i hi=>hrest i (by simp[hi])⟩
       · rw[←List.append_assoc];exact g3.append_right b2
   | s=>
     cases s<;>try (simp[getP]at hg;done)
     rename_i a b
     have hd:o≠.dead:=by rintro rfl;simp[oP]at ho
     obtain⟨oa,ob,c1,c2,b1,b2,hoo,rfl,rfl,h1,h2⟩:=h.pair hd
     have hob:oP ob p=some o':=by rcases hoo with⟨rfl,rfl,rfl⟩|rfl<;>simpa [oP]using ho
     obtain⟨off,cs',bs',rest,e1,e2,e3,e4,e5,e6,e7⟩:=ih h2 (by simpa [inner]using hn) hg hob
     have hl1:=h1.len
     refine⟨a.size+off,cs',bs',b1++rest,by simp[locP,e1],?_,by rw[List.length_append];omega,?_,e5,?_,?_⟩
     · simp only[cellsP];rw[List.drop_left' h1.len];exact e2
     · rw[←hl1,List.drop_length_add_append];exact e4
     · refine(e6.append_left b1).trans ?_
       rw[←List.append_assoc,←List.append_assoc]
       exact List.Perm.append_right _ List.perm_append_comm
     · intro w1 fz1 o2 x2 cs2 bs2 o3 hf hrest hr hs
       obtain⟨o4,hs4,rfl⟩:∃ o4,setO ob p o2=some o4∧o3=prz oa o4:=by
        rcases hoo with⟨rfl,rfl,rfl⟩|rfl
        · simp only[setO,Option.map_eq_some_iff]at hs;obtain⟨y,hy,rfl⟩:=hs;exact⟨y,hy,rfl⟩
        · simp only[setO,Option.map_eq_some_iff]at hs;obtain⟨y,hy,rfl⟩:=hs;exact⟨y,hy,rfl⟩
       obtain⟨x3,bsn,g1,g2,g3⟩:=e7 w1 fz1 o2 x2 cs2 bs2 o4 hf (fun i hi=>hrest i (by simp[hi])) hr hs4
       refine⟨(x.1,x3),b1++bsn,by simp only[setP,g1];rfl,?_,?_⟩
       · refine Rep.przIff.mpr ?_;rw[←hl1,repl_app_right]
         exact⟨c1,_,b1,bsn,rfl,rfl,h1.stable hf fun i hi=>hrest i (by simp[hi]),g2⟩
       · refine(g3.append_left b1).trans ?_
         rw[←List.append_assoc,←List.append_assoc]
         exact List.Perm.append_right _ List.perm_append_comm
   |i n=>simp[inner]at hn
end Go.V
namespace Go.V
open Go
theorem RepL.split {α:Type} {R:α→List Value→List Nat→Prop} {k:Nat} (d:α) {l:List α}:∀ {cs bs n},RepL R l cs bs→n<l.length→
  (∀ x c b,R x c b→c.length=k)→
  ∃ e1 cn e2 b1 bn b2,cs=e1++cn++e2∧bs=b1++bn++b2∧e1.length=n * k∧R (l.getD n d) cn bn∧
   ∀(S:α→List Value→List Nat→Prop) y cn' bn',S y cn' bn'→(∀ x c b,(∀ i∈b,i∈b1∨i∈b2)→R x c b→S x c b)→
    RepL S (l.set n y) (e1++cn'++e2) (b1++bn'++b2):=by
 induction l with
 |nil=>intro cs bs n _ h;simp at h
 | cons x l ih=>
   rintro cs bs n ⟨c1,c2,b1,b2,rfl,rfl,h1,h2⟩ hn H
   cases n with
   | zero=>
     refine⟨[],c1,c2,[],b1,b2,by simp,by simp,by simp,by simpa using h1,?_⟩
     intro S y cn' bn' hy hS
     exact⟨cn',c2,bn',b2,by simp,by simp,hy,h2.mono fun z _ c b hb hr=>hS z c b (fun i hi=>.inr (hb i hi)) hr⟩
   | succ n=>
     obtain⟨e1,cn,e2,d1,bn,d2,rfl,rfl,g1,g2,g3⟩:=ih (n:=n) h2 (by simpa using hn) H
     refine⟨c1++e1,cn,e2,b1++d1,bn,d2,by simp,by simp,?_,by simpa using g2,?_⟩
     · rw[List.length_append,g1,H _ _ _ h1,Nat.add_mul];omega
     · intro S y cn' bn' hy hS
       have:=g3 S y cn' bn' hy fun z c b hb hr=>hS z c b (fun i hi=>(hb i hi).imp (by simp +contextual) id) hr
       exact⟨c1,e1++cn'++e2,b1,d1++bn'++d2,by simp,by simp,hS x c1 b1 (fun i hi=>.inl (by simp[hi])) h1,this⟩
theorem lset {α:Type} (l:List α) (n:Nat) (y:α):(l.set n y).length=l.length:=List.length_set
theorem setO_z:∀ {p:List Step},inner p=false→setO .z p .z=some .z:=by
 intro p
 induction p with
 |nil=>intro _;rfl
 | cons q p ih=>
   intro h
   cases q with
   |f=>simp[setO,ih (by simpa [inner]using h),prz]
   |s=>simp[setO,ih (by simpa [inner]using h),prz]
   |i n=>simp[inner]at h
theorem setO_same:∀ {p:List Step} {s:Sh} {x:s.den} {o o':O} {tv:TV},inner p=false→getP s x p=some tv→oP o p=some o'→
  ∃ o3,setO o p o'=some o3∧∀(w:World) (fz:Nat→Prop) (y:s.den) (cs:List Value) (bs:List Nat),Rep w fz s o3 y cs bs→Rep w fz s o y cs bs:=by
 intro p
 induction p with
 | nil=>
   intro s x o o' tv _ _ ho
   have ho':o=o':=by cases o<;>simpa [oP]using ho
   subst ho'
   exact⟨o,by cases o<;>rfl,fun _ _ _ _ _ h=>h⟩
 | cons q p ih=>
   intro s x o o' tv hn hg ho
   have hn':inner p=false:=by cases q<;>simp[inner]at hn ⊢<;>exact hn
   cases o with
   | z=>
     have hz:∀ {p:List Step},oP .z p=some .z:=by
      intro p;induction p with
      |nil=>rfl
      |cons q p ih=>cases q<;>simpa [oP]using ih
     have:o' = .z:=by rw[hz]at ho;exact(Option.some.inj ho).symm
     subst this
     exact⟨.z,setO_z hn,fun _ _ _ _ _ h=>h⟩
   |dead=>cases q<;>simp[oP]at ho
   |own a=>cases q<;>first|(simp[oP]at ho;done)|(simp[inner]at hn)
   | pr oa ob=>
     cases q with
     | f=>
       cases s<;>try (simp[getP]at hg;done)
       obtain⟨o3,h1,h2⟩:=ih hn' hg (by simpa [oP]using ho)
       refine⟨prz o3 ob,by simp[setO,h1],fun w fz y cs bs h=>?_⟩
       obtain⟨c1,c2,b1,b2,g1,g2,g3,g4⟩:=Rep.przIff.mp h
       exact⟨c1,c2,b1,b2,g1,g2,h2 _ _ _ _ _ g3,g4⟩
     | s=>
       cases s<;>try (simp[getP]at hg;done)
       obtain⟨o3,h1,h2⟩:=ih hn' hg (by simpa [oP]using ho)
       refine⟨prz oa o3,by simp[setO,h1],fun w fz y cs bs h=>?_⟩
       obtain⟨c1,c2,b1,b2,g1,g2,g3,g4⟩:=Rep.przIff.mp h
       exact⟨c1,c2,b1,b2,g1,g2,g3,h2 _ _ _ _ _ g4⟩
     |i n=>simp[inner]at hn
def locM (w:World):Sh→List Value→List Step→Option (Nat×Nat)
 |.pair a _,cs,.f::p=>locM w a (cs.take a.size) p
 |.pair a b,cs,.s::p=>locM w b (cs.drop a.size) p
 | .sl _ a,cs,.i n::p=>match cs with
   | [.slice (some ad) _ _]=>match inner p with
     | true=>match readC w ad.block (ad.off+n * a.size) a.size with
       |some c=>locM w a c p
       |none=>none
     |false=>(locP a p).map fun off=>(ad.block,ad.off+n * a.size+off)
   |_=>none
 |_,_,_=>none
theorem Rep.setIn {w:World} {fz:Nat→Prop}:∀ {p:List Step} {s:Sh} {o:O} {x:s.den} {cs bs} {s':Sh} {x':s'.den} {o':O},
  Rep w fz s o x cs bs→rowOwn o p=true→InB s x p→getP s x p=some ⟨s',x'⟩→oP o p=some o'→bs.Nodup→
  ∃ g off cur e cs' bs' rest,locM w s cs p=some (g,off)∧cellsP w s cs p=some cs'∧w.heap[g]? = some (.cells cur e (0,0))∧off+s'.size≤cur.size∧
   (cur.toList.drop off).take s'.size=cs'∧Rep w fz s' o' x' cs' bs'∧bs.Perm (bs'++rest)∧g∈rest∧
   ∀(w1:World) (fz1:Nat→Prop) (x2:s'.den) (cs2:List Value) (bs2:List Nat) (cur1:Array Value),
    (∀ b,fz b→fz1 b∧w1.heap[b]? = w.heap[b]?)→(∀ b∈rest,b≠g→w1.heap[b]? = w.heap[b]?)→
    w1.heap[g]? = some (.cells cur1 e (0,0))→cur1.toList=repl off cs2 cur.toList→Rep w1 fz1 s' o' x2 cs2 bs2→
    ∃ x3 bsn,setP s x p ⟨s',x2⟩=some x3∧Rep w1 fz1 s o x3 cs bsn∧bsn.Perm (bs2++rest):=by
 intro p
 induction p with
 |nil=>intro s o x cs bs s' x' o' _ h;cases o<;>simp[rowOwn]at h
 | cons q p ih=>
   intro s o x cs bs s' x' o' h hro hin hg ho hnd
   cases q with
   | f=>
     cases s<;>try (simp[getP]at hg;done)
     rename_i a b
     cases o<;>try (simp[rowOwn]at hro;done)
     rename_i oa ob
     obtain⟨c1,c2,b1,b2,rfl,rfl,h1,h2⟩:=h
     obtain⟨g,off,cur,e,cs',bs',rest,e1,e2,e3,e4,e5,e6,e7,e8,e9⟩:=ih h1 hro hin hg ho (List.nodup_append.mp hnd).1
     have hgb:g∈b1:=e7.mem_iff.mpr (by simp[e8])
     refine⟨g,off,cur,e,cs',bs',rest++b2,?_,?_,e3,e4,e5,e6,?_,by simp[e8],?_⟩
     · simp only[locM];rw[List.take_left' h1.len];exact e1
     · simp only[cellsP];rw[List.take_left' h1.len];exact e2
     · rw[←List.append_assoc];exact e7.append_right b2
     · intro w1 fz1 x2 cs2 bs2 cur1 hf hrest hg1 hc1 hr
       obtain⟨x3,bsn,g1,g2,g3⟩:=e9 w1 fz1 x2 cs2 bs2 cur1 hf (fun i hi=>hrest i (by simp[hi])) hg1 hc1 hr
       refine⟨(x3,x.2),bsn++b2,by simp only[setP,g1];rfl,⟨c1,c2,bsn,b2,rfl,rfl,g2,h2.stable hf fun i hi=>hrest i (by simp[hi]) ?_⟩,?_⟩
       · rintro rfl;exact(List.nodup_append.mp hnd).2.2 _ hgb _ hi rfl
       · rw[←List.append_assoc];exact g3.append_right b2
   | s=>
     cases s<;>try (simp[getP]at hg;done)
     rename_i a b
     cases o<;>try (simp[rowOwn]at hro;done)
     rename_i oa ob
     obtain⟨c1,c2,b1,b2,rfl,rfl,h1,h2⟩:=h
     obtain⟨g,off,cur,e,cs',bs',rest,e1,e2,e3,e4,e5,e6,e7,e8,e9⟩:=ih h2 hro hin hg ho (List.nodup_append.mp hnd).2.1
     have hgb:g∈b2:=e7.mem_iff.mpr (by simp[e8])
     have perm:∀ {y z:List Nat},y.Perm (z++rest)→(b1++y).Perm (z++(b1++rest)):=by
      intro y z hp
      refine(hp.append_left b1).trans ?_
      rw[←List.append_assoc,←List.append_assoc]
      exact List.Perm.append_right _ List.perm_append_comm
     refine⟨g,off,cur,e,cs',bs',b1++rest,?_,?_,e3,e4,e5,e6,perm e7,by simp[e8],?_⟩
     · simp only[locM];rw[List.drop_left' h1.len];exact e1
     · simp only[cellsP];rw[List.drop_left' h1.len];exact e2
     · intro w1 fz1 x2 cs2 bs2 cur1 hf hrest hg1 hc1 hr
       obtain⟨x3,bsn,g1,g2,g3⟩:=e9 w1 fz1 x2 cs2 bs2 cur1 hf (fun i hi=>hrest i (by simp[hi])) hg1 hc1 hr
       refine⟨(x.1,x3),b1++bsn,by simp only[setP,g1];rfl,⟨c1,c2,b1,bsn,rfl,rfl,h1.stable hf fun i hi=>hrest i (by simp[hi]) ?_,g2⟩,perm g3⟩
       rintro rfl;exact(List.nodup_append.mp hnd).2.2 _ hi _ hgb rfl
   | i n=>
     cases s<;>try (simp[getP]at hg;done)
     rename_i e a
     cases o<;>try (simp[rowOwn]at hro;done)
     rename_i oa
     obtain⟨hn,hin⟩:=hin
     obtain⟨v,es,ebs,rfl,h1,h2⟩:=h
     rcases h2 with⟨_,rfl,_⟩|⟨g0,cap,cur0,rfl,h3,h4,h5,h6,h7,rfl⟩
     · simp at hn
     · have hel:=h1.len fun _ _ _ hr=>hr.len
       obtain⟨f1,cn,f2,d1,bn,d2,rfl,rfl,k1,k2,k3⟩:=h1.split a.zv hn fun _ _ _ hr=>hr.len
       have hcn:=k2.len
       have hnd':=List.nodup_cons.mp hnd
       have hle:n * a.size+a.size≤List.length x * a.size:=by
        calc n * a.size+a.size=(n+1) * a.size:=by rw[Nat.add_mul];omega
         _≤_:=Nat.mul_le_mul_right _ hn
       have hsz:List.length x * a.size≤cur0.size:=by rw[h6];exact Nat.mul_le_mul_right _ h4
       have hread:readC w g0 (0+n * a.size) a.size=some cn:=by
        rw[readC_of h3 (by omega)]
        congr 1
        have:(cur0.toList.drop (0+n * a.size)).take a.size=((f1++cn++f2).drop (n * a.size)).take a.size:=by
         rw[←h7,List.drop_take,List.take_take,Nat.min_eq_left (by omega),Nat.zero_add]
        rw[this,←k1,List.append_assoc,List.drop_left,←hcn,List.take_left]
       have hcur:cur0.toList=f1++cn++f2++cur0.toList.drop (List.length x * a.size):=by
        conv=>lhs;rw[←List.take_append_drop (List.length x * a.size) cur0.toList]
        rw[h7]
       cases hp:inner p with
       | true=>
         have hro':rowOwn oa p=true:=by simpa [rowOwn,hp]using hro
         have hndn:bn.Nodup:=(List.nodup_append.mp (List.nodup_append.mp hnd'.2).1).2.1
         obtain⟨g,off,cur,e',cs',bs',rest,e1,e2,e3,e4,e5,e6,e7,e8,e9⟩:=ih k2 hro' hin hg ho hndn
         have hgb:g∈bn:=e7.mem_iff.mpr (by simp[e8])
         have hgg:g≠g0:=by rintro rfl;exact hnd'.1 (by simp[hgb])
         have perm:∀ {y z:List Nat},y.Perm (z++rest)→(g0::(d1++y++d2)).Perm (z++(g0::(d1++rest++d2))):=by
          intro y z hp
          refine(List.Perm.cons g0 ((hp.append_left d1).append_right d2)).trans ?_
          refine .trans ?_ List.perm_middle.symm
          refine List.Perm.cons _ ?_
          simp only[List.append_assoc]
          rw[←List.append_assoc,←List.append_assoc z]
          exact List.Perm.append_right _ List.perm_append_comm
         refine⟨g,off,cur,e',cs',bs',g0::(d1++rest++d2),?_,?_,e3,e4,e5,e6,perm e7,by simp[e8],?_⟩
         · simp only[locM,hp,hread];exact e1
         · simp only[cellsP,hread];exact e2
         · intro w1 fz1 x2 cs2 bs2 cur1 hf hrest hg1 hc1 hr
           obtain⟨x3,bsn,g1,g2,g3⟩:=e9 w1 fz1 x2 cs2 bs2 cur1 hf (fun i hi=>hrest i (by simp[hi])) hg1 hc1 hr
           refine⟨List.set x n x3,g0::(d1++bsn++d2),by simp only[setP,g1];rfl,?_,perm g3⟩
           refine⟨_,f1++cn++f2,_,rfl,k3 _ x3 cn bsn g2 fun z c b hb hr=>hr.stable hf fun i hi=>?_,.inr ⟨g0,cap,cur0,by rw[show List.length (List.set x n x3)=List.length x from lset _ _ _],?_,by rw[show List.length (List.set x n x3)=List.length x from lset _ _ _];exact h4,h5,h6,by rw[show List.length (List.set x n x3)=List.length x from lset _ _ _];exact h7,rfl⟩⟩
           · have hib:=hb i hi
             refine hrest i (by simp;rcases hib with h|h<;>simp[h]) ?_
             rintro rfl
             have hnd3:=List.nodup_append.mp hnd'.2
             rcases hib with h|h
             · exact(List.nodup_append.mp hnd3.1).2.2 _ h _ hgb rfl
             · exact hnd3.2.2 _ (by simp[hgb]) _ h rfl
           · rw[hrest g0 (by simp) (Ne.symm hgg),h3]
       | false=>
         obtain⟨off,cs',bs',rest,e1,e2,e3,e4,e5,e6,e7⟩:=k2.setField hp hg ho
         have perm:∀ {y z:List Nat},y.Perm (z++rest)→(g0::(d1++y++d2)).Perm (z++(g0::(d1++rest++d2))):=by
          intro y z hp
          refine(List.Perm.cons g0 ((hp.append_left d1).append_right d2)).trans ?_
          refine .trans ?_ List.perm_middle.symm
          refine List.Perm.cons _ ?_
          simp only[List.append_assoc]
          rw[←List.append_assoc,←List.append_assoc z]
          exact List.Perm.append_right _ List.perm_append_comm
         refine⟨g0,0+n * a.size+off,cur0,e,cs',bs',g0::(d1++rest++d2),?_,?_,h3,by omega,?_,e5,perm e6,by simp,?_⟩
         · simp only[locM,hp,e1];rfl
         · simp only[cellsP,hread];exact e2
         · rw[hcur,List.append_assoc,List.append_assoc,show 0+n * a.size+off=f1.length+off by omega,List.drop_length_add_append,
            List.drop_append_of_le_length (by omega),List.take_append_of_le_length (by rw[List.length_drop];omega)]
           exact e4
         · intro w1 fz1 x2 cs2 bs2 cur1 hf hrest hg1 hc1 hr
           have hng:∀ i∈d1++rest++d2,i≠g0:=by
            rintro i hi rfl
            refine hnd'.1 ?_
            simp only[List.mem_append]at hi ⊢
            rcases hi with (h|h)|h
            · exact .inl (.inl h)
            · exact .inl (.inr (e6.mem_iff.mpr (by simp[h])))
            · exact .inr h
           obtain⟨o3,hs3,hr3⟩:=setO_same hp hg ho
           obtain⟨x3,bsn,g1,g2,g3⟩:∃ x3 bsn,setP a (List.getD x n a.zv) p ⟨s',x2⟩=some x3∧Rep w1 fz1 a oa x3 (repl off cs2 cn) bsn∧bsn.Perm (bs2++rest):=by
            obtain⟨x3,bsn,g1,g2,g3⟩:=e7 w1 fz1 o' x2 cs2 bs2 o3 hf (fun i hi=>hrest i (by simp[hi]) (hng i (by simp[hi]))) hr hs3
            exact⟨x3,bsn,g1,hr3 _ _ _ _ _ g2,g3⟩
           refine⟨List.set x n x3,g0::(d1++bsn++d2),by simp only[setP,g1];rfl,?_,perm g3⟩
           have hcl:cs2.length=s'.size:=hr.len
           have hlr:(repl off cs2 cn).length=a.size:=by unfold repl;simp;omega
           refine⟨_,f1++repl off cs2 cn++f2,_,rfl,k3 _ x3 _ bsn g2 fun z c b hb hr=>hr.stable hf fun i hi=>?_,
            .inr ⟨g0,cap,cur1,by rw[show List.length (List.set x n x3)=List.length x from lset _ _ _],hg1,by rw[show List.length (List.set x n x3)=List.length x from lset _ _ _];exact h4,h5,?_,?_,rfl⟩⟩
           · have hib:=hb i hi
             exact hrest i (by simp;rcases hib with h|h<;>simp[h]) (hng i (by simp;rcases hib with h|h<;>simp[h]))
           · have:cur1.size=cur0.size:=by
              have:=congrArg List.length hc1
              unfold repl at this
              simp at this
              omega
             omega
           · rw[hc1,hcur,List.append_assoc,List.append_assoc,show 0+n * a.size+off=f1.length+off by omega,repl_app_right,repl_app_left (by omega)]
             have hfl:List.length (List.set x n x3) * a.size=(f1++repl off cs2 cn++f2).length:=by
              rw[show List.length (List.set x n x3)=List.length x from lset _ _ _,←hel];simp[hlr,hcn]
             rw[hfl,←List.append_assoc,←List.append_assoc,List.take_left]
end Go.V
namespace Go.V
open Go
structure RC where
 cs:List Value
 bs:List Nat
 blk:Nat
def blocks (r:Root) (q:RC):List Nat:=match r.box with
 |true=>q.blk::q.bs
 |false=>q.bs
def allB (rc:Nat→RC) (l:List (Nat×Root)):List Nat:=l.flatMap fun kr=>blocks kr.2 (rc kr.1)
structure Fr where
 x:List Nat
 z:Nat→Prop
 c:Nat→Nat→Prop
 n:Nat
 ic:Nat→List Value
 ib:Nat→Nat
structure fzOf (X:Fr) (w:World) (l:List Nat) (b:Nat):Prop where
 lt:b<w.heap.size
 out:b∉l
 z:X.z b
def RootOk (w:World) (fz:Nat→Prop) (r:Root) (q:RC):Prop:=
 Rep w fz r.s r.o r.x q.cs q.bs∧(r.box=true→∃ cur e,w.heap[q.blk]? = some (.cells cur e (0,0))∧cur.toList=q.cs)
def VCells (w:World) (fz:Nat→Prop) (R:Nat→Option Root) (rc:Nat→RC):Val→List Value→Prop
 |.t sh o x,cs=>Rep w fz sh o x cs []
 |.own k p,cs=>∀ r,R k=some r→InB r.s r.x p∧(∃ o',oP r.o p=some o')∧cellsP w r.s (rc k).cs p=some cs∧∃ e a,shP r.s p=some (.sl e a)
 |.pair a b,cs=>∃ c1 c2,cs=c1++c2∧VCells w fz R rc a c1∧VCells w fz R rc b c2
 |.baddr k p,cs=>∀ r,R k=some r→r.box=true→∃ off,locP r.s p=some off∧cs=[.pointer (some ⟨(rc k).blk,off,none⟩)]
 |.eaddr k p i fp,cs=>∀ r,R k=some r→∃ g n cap e a off,InB r.s r.x p∧(∃ o',oP r.o p=some o')∧cellsP w r.s (rc k).cs p=some [.slice (some ⟨g,0,none⟩) n cap]∧
  shP r.s p=some (.sl e a)∧i<n∧locP a fp=some off∧cs=[.pointer (some ⟨g,i * a.size+off,none⟩)]
 |.faddr sh x,cs=>Rep w fz (.ptr sh) .z x cs []
 |.sub k p lo hi,cs=>∀ r,R k=some r→∃ g n cap e a,InB r.s r.x p∧(∃ o',oP r.o p=some o')∧cellsP w r.s (rc k).cs p=some [.slice (some ⟨g,0,none⟩) n cap]∧
  shP r.s p=some (.sl e a)∧lo≤hi∧hi≤n∧cs=[.slice (if cap=lo then some ⟨g,0,none⟩ else some ⟨g,lo * a.size,none⟩) (hi - lo) (cap - lo)]
 |.clo f c,cs=>∃ ccs,cs=[.func (.func f) #[] (List.toArray ccs)]∧VCells w fz R rc c ccs
 |.vbox v,cs=>∃ blk off cur e pre ccs post,cs=[.pointer (some ⟨blk,off,none⟩)]∧fz blk∧w.heap[blk]? = some (.cells cur e (0,0))∧cur.toList=pre++(ccs++post)∧pre.length=off∧VCells w fz R rc v ccs
 |.nils,cs=>cs=[.slice none 0 0]
 |.undef,_=>True
 |.tup _ _,_=>False
 |.tnil,_=>False
abbrev aggS:Sh→Bool:=aggSh
def aggV:Val→Bool
 |.t s _ _=>aggS s
 |.pair _ _=>true
 |_=>false
def packV (agg:Bool) (cs:List Value):Value:=match agg with
 |true=>.agg cs.toArray
 |false=>cs.headD undef
def VOk (w:World) (fz:Nat→Prop) (R:Nat→Option Root) (rc:Nat→RC):Val→Value→Prop
 |.tup a b,c=>∃ v vs,c = .tuple (List.toArray (v::vs))∧VOk w fz R rc a v∧VOk w fz R rc b (.tuple (List.toArray vs))
 |.tnil,c=>c = .tuple #[]
 |.undef,_=>True
 |v,c=>∃ cs,VCells w fz R rc v cs∧c=packV (aggV v) cs
structure Ext (X:List Nat) (w w':World):Prop where
 os:w'.os=w.os
 tape:w'.tape=w.tape
 output:w'.output=w.output
 size:w.heap.size≤w'.heap.size
 block:∀ b,b<w.heap.size→b∉X→w'.heap[b]? = w.heap[b]?
 drawn:w.drawn≤w'.drawn
structure Rel (rc:Nat→RC) (ex:List Nat) (C s:St) (X:Fr) (w0:World) (a:Act) (w:World):Prop where
 keys:((s.roots++C.roots).map (·.1)).Nodup
 excl:(ex++allB rc (s.roots++C.roots)).Nodup
 bnd:∀ b∈ex++allB rc (s.roots++C.roots),b<w.heap.size∧(w0.heap.size≤b∨b∈X.x)
 roots:∀ k r,(k,r)∈s.roots++C.roots→RootOk w (fzOf X w (ex++allB rc (s.roots++C.roots))) r (rc k)
 tn:(s.tmps.map (·.1)).Nodup
 td:∀ t v,(t,v)∈s.tmps→look t C.tmps=none
 tm:∀ t v,(t,v)∈s.tmps++C.tmps→∃ c,a.tmps[t]? = some c∧VOk w (fzOf X w (ex++allB rc (s.roots++C.roots))) (getR C s) rc v c
 ext:Ext X.x w0 w
 nd:a.defers=[]
 zok:(∀ b,w0.heap.size≤b→X.z b)∧∀ b∈X.x,X.z b
 cfx:∀ k b,X.c k b→(∃ r,(k,r)∈C.roots∧b∈blocks r (rc k))∧w.heap[b]? = w0.heap[b]?
 tsz:a.tmps.size=X.n
 inn:∀ k r,(k,r)∈s.roots++C.roots→r.inn=true→(r.box=false→(rc k).cs=X.ic k)∧(r.box=true→(rc k).blk=X.ib k)
theorem look_mem {α:Type} {k:Nat} {v:α}:∀ {l:List (Nat×α)},look k l=some v→(k,v)∈l:=by
 intro l
 induction l with
 |nil=>intro h;simp[look]at h
 | cons q l ih=>
   obtain⟨j,u⟩:=q
   intro h
   simp only[look]at h
   split at h
   · rename_i hj;have:=Nat.eq_of_beq_eq_true hj;subst this;simp at h;subst h;simp
   · exact List.mem_cons_of_mem _ (ih h)
theorem mem_look {α:Type} {k:Nat} {v:α}:∀ {l:List (Nat×α)},(l.map (·.1)).Nodup→(k,v)∈l→look k l=some v:=by
 intro l
 induction l with
 |nil=>intro _ h;simp at h
 | cons q l ih=>
   obtain⟨j,u⟩:=q
   intro hn h
   simp only[List.map_cons,List.nodup_cons]at hn
   rcases List.mem_cons.mp h with h|h
   · cases h;simp[look]
   · simp only[look]
     have:Nat.beq j k=false:=by
      rw[Bool.eq_false_iff]
      intro hb
      have:=Nat.eq_of_beq_eq_true hb
      subst this
      exact hn.1 (List.mem_map.mpr ⟨_,h,rfl⟩)
     rw[this];exact ih hn.2 h
theorem look_none {α:Type} {k:Nat}:∀ {l:List (Nat×α)},look k l=none↔∀ v,(k,v)∉l:=by
 intro l
 induction l with
 |nil=>simp[look]
 | cons q l ih=>
   obtain⟨j,u⟩:=q
   simp only[look]
   split
   · rename_i hj;have:=Nat.eq_of_beq_eq_true hj;subst this
     constructor
     · intro h;simp at h
     · intro h;exact absurd (List.mem_cons_self ..) (h u)
   · rename_i hj
     have:k≠j:=by rintro rfl;simp at hj
     rw[ih];simp[this]
theorem mem_getR {C s:St} {k:Nat} {r:Root} (hn:((s.roots++C.roots).map (·.1)).Nodup):getR C s k=some r↔(k,r)∈s.roots++C.roots:=by
 have e:getR C s k=look k (s.roots++C.roots):=by
  unfold getR
  generalize s.roots=l
  induction l with
  |nil=>simp[look]
  | cons q l ih=>
    obtain⟨j,u⟩:=q
    cases hb:Nat.beq j k with
    |true=>simp[look,hb]
    |false=>simp only[look,hb,List.cons_append];exact ih
 rw[e]
 exact⟨look_mem,mem_look hn⟩
theorem fzOf_mono {X:Fr} {w w1:World} {l l1:List Nat} (hs:w.heap.size≤w1.heap.size) (hl:∀ b∈l1,b∈l∨w.heap.size≤b) {b:Nat} (h:fzOf X w l b):fzOf X w1 l1 b:=
 ⟨Nat.lt_of_lt_of_le h.1 hs,fun hb=>(hl b hb).elim h.2 fun h'=>absurd h.1 (by omega),h.3⟩
theorem Rep.cellsP_stable {w w1:World} {fz:Nat→Prop} (hf:∀ b,fz b→w1.heap[b]? = w.heap[b]?):∀ {p:List Step} {s:Sh} {o:O} {x:s.den} {cs bs c},
  Rep w fz s o x cs bs→(∀ b∈bs,w1.heap[b]? = w.heap[b]?)→InB s x p→(∃ o',oP o p=some o')→cellsP w s cs p=some c→cellsP w1 s cs p=some c:=by
 have hread:∀ {b off n c},w1.heap[b]? = w.heap[b]?→readC w b off n=some c→readC w1 b off n=some c:=by
  intro b off n c h hr;unfold readC at *;rw[h];exact hr
 intro p
 induction p with
 |nil=>intro s o x cs bs c _ _ _ _ h;cases s<;>simpa [cellsP]using h
 | cons q p ih=>
   intro s o x cs bs c h hb hin ho hc
   obtain⟨o',ho⟩:=ho
   cases q with
   | f=>
     cases s<;>try (simp[InB]at hin;done)
     have hd:o≠.dead:=by rintro rfl;simp[oP]at ho
     obtain⟨oa,ob,c1,c2,b1,b2,hoo,rfl,rfl,h1,h2⟩:=h.pair hd
     have hoa:oP oa p=some o':=by rcases hoo with⟨rfl,rfl,rfl⟩|rfl<;>simpa [oP]using ho
     simp only[cellsP]at hc ⊢
     rw[List.take_left' h1.len]at hc ⊢
     exact ih h1 (fun i hi=>hb i (by simp[hi])) hin ⟨_,hoa⟩ hc
   | s=>
     cases s<;>try (simp[InB]at hin;done)
     have hd:o≠.dead:=by rintro rfl;simp[oP]at ho
     obtain⟨oa,ob,c1,c2,b1,b2,hoo,rfl,rfl,h1,h2⟩:=h.pair hd
     have hoa:oP ob p=some o':=by rcases hoo with⟨rfl,rfl,rfl⟩|rfl<;>simpa [oP]using ho
     simp only[cellsP]at hc ⊢
     rw[List.drop_left' h1.len]at hc ⊢
     exact ih h2 (fun i hi=>hb i (by simp[hi])) hin ⟨_,hoa⟩ hc
   | i n=>
     cases s<;>try (simp[InB]at hin;done)
     rename_i e a
     obtain⟨hn,hin⟩:=hin
     cases o with
     | z=>
       obtain⟨A,cap,es,rfl,rfl,h2,h3,h4,h5⟩:=h
       rcases h5 with rfl|⟨b,off,rfl,hz,hcells⟩
       · simp at hn
       · obtain⟨bn,hr,hi⟩:=h4.nth a.zv hn fun _ _ _ hr=>hr.len
         have hlen:=h4.len fun _ _ _ hr=>hr.len
         have e1:=hcells.read (i:=n * a.size) (n:=a.size) (by rw[hlen];calc n * a.size+a.size=(n+1) * a.size:=by rw[Nat.add_mul];omega
          _≤_:=Nat.mul_le_mul_right _ hn)
         simp only[cellsP]at hc ⊢
         rw[e1]at hc
         rw[hread (hf b hz) e1]
         exact ih hr (fun i h=>by have:=hi i h;simp at this) hin ⟨o',by simpa [oP]using ho⟩ hc
     | own oa=>
       obtain⟨v,es,ebs,rfl,h1,h2⟩:=h
       rcases h2 with⟨_,rfl,_⟩|⟨g,cap,cur,rfl,h3,h4,h5,h6,h7,rfl⟩
       · simp at hn
       · obtain⟨bn,hr,hi⟩:=h1.nth a.zv hn fun _ _ _ hr=>hr.len
         have hle:n * a.size+a.size≤List.length x * a.size:=by
          calc n * a.size+a.size=(n+1) * a.size:=by rw[Nat.add_mul];omega
           _≤_:=Nat.mul_le_mul_right _ hn
         have e1:readC w g (0+n * a.size) a.size=some ((es.drop (n * a.size)).take a.size):=by
          rw[readC_of h3 (by rw[h6];have:=Nat.mul_le_mul_right a.size h4;omega),Nat.zero_add,←h7,List.drop_take,List.take_take,Nat.min_eq_left (by omega)]
         simp only[cellsP]at hc ⊢
         rw[e1]at hc
         rw[hread (hb g (by simp)) e1]
         exact ih hr (fun i h=>hb i (by simp[hi i h])) hin ⟨o',by simpa [oP]using ho⟩ hc
     |dead=>simp[oP]at ho
     |pr _ _=>exact h.elim
def HS (w w1:World) (R R1:Nat→Option Root) (rc rc1:Nat→RC) (k:Nat) (p:List Step):Prop:=
 ∀ r1,R1 k=some r1→∃ r,R k=some r∧r1.s=r.s∧∀ c e a,InB r.s r.x p→(∃ o',oP r.o p=some o')→shP r.s p=some (.sl e a)→cellsP w r.s (rc k).cs p=some c→
  InB r1.s r1.x p∧(∃ o',oP r1.o p=some o')∧cellsP w1 r1.s (rc1 k).cs p=some c
def BS (R R1:Nat→Option Root) (rc rc1:Nat→RC) (k:Nat):Prop:=
 ∀ r1,R1 k=some r1→r1.box=true→∃ r,R k=some r∧r.box=true∧r1.s=r.s∧(rc1 k).blk=(rc k).blk
def refsAt (k:Nat) (p:List Step):Val→Prop
 |.own key q=>key=k∧q=p
 |.eaddr key q _ _=>key=k∧q=p
 |.sub key q _ _=>key=k∧q=p
 |.pair a b=>refsAt k p a∨refsAt k p b
 |.tup a b=>refsAt k p a∨refsAt k p b
 |.clo _ c=>refsAt k p c
 |.vbox c=>refsAt k p c
 |_=>False
theorem refsAt_refs {k:Nat} {p:List Step}:∀ {v:Val},refsAt k p v→refs false k v=true:=by
 intro v
 induction v with
 |own key q=>rintro⟨rfl,rfl⟩;simp[refs]
 |eaddr key q i fp=>rintro⟨rfl,rfl⟩;simp[refs]
 |sub key q lo hi=>rintro⟨rfl,rfl⟩;simp[refs]
 |pair a b iha ihb=>rintro (h|h);simp[refs,iha h];simp[refs,ihb h]
 |tup a b iha ihb=>rintro (h|h);simp[refs,iha h];simp[refs,ihb h]
 |clo f c ih=>intro h;simpa [refs]using ih h
 |vbox c ih=>intro h;simpa [refs]using ih h
 |_=>intro h;exact h.elim
theorem refsAt_I {k:Nat} {p:List Step}:∀ {v:Val},refsAt k p v→refsI k v=false→inner p=false:=by
 intro v
 induction v with
 |own key q=>rintro⟨rfl,rfl⟩ h;simpa [refsI]using h
 |eaddr key q i fp=>rintro⟨rfl,rfl⟩ h;simpa [refsI]using h
 |sub key q lo hi=>rintro⟨rfl,rfl⟩ h;simpa [refsI]using h
 |pair a b iha ihb=>rintro (h|h) h1<;>simp only[refsI,Bool.or_eq_false_iff]at h1;exact iha h h1.1;exact ihb h h1.2
 |tup a b iha ihb=>rintro (h|h) h1<;>simp only[refsI,Bool.or_eq_false_iff]at h1;exact iha h h1.1;exact ihb h h1.2
 |clo f c ih=>intro h h1;exact ih h (by simpa [refsI]using h1)
 |vbox c ih=>intro h h1;exact ih h (by simpa [refsI]using h1)
 |_=>intro h;exact h.elim
def brefs (k:Nat):Val→Bool
 |.baddr key _=>Nat.beq key k
 |.pair a b=>brefs k a||brefs k b
 |.tup a b=>brefs k a||brefs k b
 |.clo _ c=>brefs k c
 |.vbox c=>brefs k c
 |_=>false
theorem VCells.stable {w w1:World} {fz fz1:Nat→Prop} {R R1:Nat→Option Root} {rc rc1:Nat→RC} (hf:∀ b,fz b→fz1 b∧w1.heap[b]? = w.heap[b]?) :
  ∀ {v:Val} {cs},VCells w fz R rc v cs→(∀ k p,refsAt k p v→HS w w1 R R1 rc rc1 k p)→(∀ k,brefs k v=true→BS R R1 rc rc1 k)→VCells w1 fz1 R1 rc1 v cs:=by
 intro v
 induction v with
 |t sh o x=>intro cs h _ _;exact Rep.stable hf h (by simp)
 | own k p=>
   intro cs h hh _ r1 hr1
   obtain⟨r,h1,h2,h3⟩:=hh k p ⟨rfl,rfl⟩ r1 hr1
   obtain⟨g1,g0,g2,e,a,g3⟩:=h r h1
   obtain⟨k1,k0,k2⟩:=h3 cs e a g1 g0 g3 g2
   exact⟨k1,k0,k2,e,a,by rw[h2];exact g3⟩
 | pair a b iha ihb=>
   rintro cs ⟨c1,c2,rfl,h1,h2⟩ hh hb
   exact⟨c1,c2,rfl,iha h1 (fun k p hk=>hh k p (by simp[refsAt,hk])) (fun k hk=>hb k (by simp[brefs,hk])),
    ihb h2 (fun k p hk=>hh k p (by simp[refsAt,hk])) (fun k hk=>hb k (by simp[brefs,hk]))⟩
 |tup a b _ _=>intro cs h;exact h.elim
 |tnil=>intro cs h;exact h.elim
 | baddr k p=>
   intro cs h _ hb r1 hr1 hbox
   obtain⟨r,h1,h2,h3,h4⟩:=hb k (by simp[brefs]) r1 hr1 hbox
   obtain⟨off,g1,g2⟩:=h r h1 h2
   exact⟨off,by rw[h3];exact g1,by rw[h4];exact g2⟩
 | eaddr k p i fp=>
   intro cs h hh _ r1 hr1
   obtain⟨r,h1,h2,h3⟩:=hh k p ⟨rfl,rfl⟩ r1 hr1
   obtain⟨g,n,cap,e,a,off,g1,g0,g2,g3,g4,g5,g6⟩:=h r h1
   obtain⟨k1,k0,k2⟩:=h3 _ e a g1 g0 g3 g2
   exact⟨g,n,cap,e,a,off,k1,k0,k2,by rw[h2];exact g3,g4,g5,g6⟩
 | sub k p lo hi=>
   intro cs h hh _ r1 hr1
   obtain⟨r,h1,h2,h3⟩:=hh k p ⟨rfl,rfl⟩ r1 hr1
   obtain⟨g,n,cap,e,a,g1,g0,g2,g3,g4,g5,g6⟩:=h r h1
   obtain⟨k1,k0,k2⟩:=h3 _ e a g1 g0 g3 g2
   exact⟨g,n,cap,e,a,k1,k0,k2,by rw[h2];exact g3,g4,g5,g6⟩
 |faddr sh x=>intro cs h _ _;exact Rep.stable hf h (by simp)
 | clo f c ih=>
   rintro cs ⟨ccs,rfl,h⟩ hh hb
   exact⟨ccs,rfl,ih h (fun k p hk=>hh k p (by simp[refsAt,hk])) (fun k hk=>hb k (by simp[brefs,hk]))⟩
 | vbox c ih=>
   rintro cs ⟨blk,off,cur,e,pre,ccs,post,rfl,h1,h2,h3,h4,h⟩ hh hb
   exact⟨blk,off,cur,e,pre,ccs,post,rfl,(hf blk h1).1,by rw[(hf blk h1).2];exact h2,h3,h4,ih h (fun k p hk=>hh k p (by simp[refsAt,hk])) (fun k hk=>hb k (by simp[brefs,hk]))⟩
 |nils=>intro cs h _ _;exact h
 |undef=>intro cs _ _ _;trivial
theorem VOk.stable {w w1:World} {fz fz1:Nat→Prop} {R R1:Nat→Option Root} {rc rc1:Nat→RC} (hf:∀ b,fz b→fz1 b∧w1.heap[b]? = w.heap[b]?) :
  ∀ {v:Val} {c},VOk w fz R rc v c→(∀ k p,refsAt k p v→HS w w1 R R1 rc rc1 k p)→(∀ k,brefs k v=true→BS R R1 rc rc1 k)→VOk w1 fz1 R1 rc1 v c:=by
 intro v
 induction v with
 | tup a b iha ihb=>
   rintro c ⟨v,vs,rfl,h1,h2⟩ hh hb
   exact⟨v,vs,rfl,iha h1 (fun k p hk=>hh k p (by simp[refsAt,hk])) (fun k hk=>hb k (by simp[brefs,hk])),
    ihb h2 (fun k p hk=>hh k p (by simp[refsAt,hk])) (fun k hk=>hb k (by simp[brefs,hk]))⟩
 |tnil=>intro c h _ _;exact h
 |undef=>intro c _ _ _;trivial
 |_=>rintro c ⟨cs,h,rfl⟩ hh hb;exact⟨cs,h.stable hf hh hb,rfl⟩
theorem HS.same {w w1:World} {R R1:Nat→Option Root} {rc rc1:Nat→RC} {k:Nat} {p:List Step} {fz:Nat→Prop} (hR:R1 k=R k) (hq:rc1 k=rc k)
  (hok:∀ r,R k=some r→RootOk w fz r (rc k)∧∀ b∈blocks r (rc k),w1.heap[b]? = w.heap[b]?) (hf:∀ b,fz b→w1.heap[b]? = w.heap[b]?):HS w w1 R R1 rc rc1 k p:=by
 intro r1 hr1
 rw[hR]at hr1
 refine⟨r1,hr1,rfl,fun c e a hin ho _ hc=>⟨hin,ho,?_⟩⟩
 obtain⟨⟨h1,_⟩,h2⟩:=hok r1 hr1
 rw[hq]
 exact h1.cellsP_stable hf (fun b hb=>h2 b (by unfold blocks;split<;>simp[hb])) hin ho hc
theorem BS.same {R R1:Nat→Option Root} {rc rc1:Nat→RC} {k:Nat} (hR:R1 k=R k) (hq:rc1 k=rc k):BS R R1 rc rc1 k:=by
 intro r1 hr1 hb
 rw[hR]at hr1
 exact⟨r1,hr1,hb,rfl,by rw[hq]⟩
theorem RootOk.stable {w w1:World} {fz fz1:Nat→Prop} {r:Root} {q:RC} (h:RootOk w fz r q) (hf:∀ b,fz b→fz1 b∧w1.heap[b]? = w.heap[b]?)
  (hb:∀ b∈blocks r q,w1.heap[b]? = w.heap[b]?):RootOk w1 fz1 r q:=by
 refine⟨h.1.stable hf fun b hb'=>hb b (by unfold blocks;split<;>simp[hb']),fun hbox=>?_⟩
 obtain⟨cur,e,h1,h2⟩:=h.2 hbox
 exact⟨cur,e,by rw[hb q.blk (by simp[blocks,hbox]),h1],h2⟩
theorem Rel.step {rc rc1:Nat→RC} {ex ex1:List Nat} {C s s1:St} {X:Fr} {w0:World} {a:Act} {w w1:World} (h:Rel rc ex C s X w0 a w)
  (keys1:((s1.roots++C.roots).map (·.1)).Nodup)
  (excl1:(ex1++allB rc1 (s1.roots++C.roots)).Nodup)
  (bnd1:∀ b∈ex1++allB rc1 (s1.roots++C.roots),b<w1.heap.size∧(b∈ex++allB rc (s.roots++C.roots)∨w.heap.size≤b))
  (hsz:w.heap.size≤w1.heap.size) (hos:w1.os=w.os) (htape:w1.tape=w.tape) (hout:w1.output=w.output)
  (hfz:∀ b,b<w.heap.size→b∉ex++allB rc (s.roots++C.roots)→w1.heap[b]? = w.heap[b]?)
  (hroots:∀ k r,(k,r)∈s1.roots++C.roots→((k,r)∈s.roots++C.roots∧rc1 k=rc k∧∀ b∈blocks r (rc k),w1.heap[b]? = w.heap[b]?)∨
   (RootOk w1 (fzOf X w1 (ex1++allB rc1 (s1.roots++C.roots))) r (rc1 k)∧(r.inn=true→∃ r0,(k,r0)∈s.roots++C.roots∧r0.inn=true∧r0.box=r.box∧(r.box=false→(rc1 k).cs=(rc k).cs)∧(r.box=true→(rc1 k).blk=(rc k).blk))))
  (hcs:∀ k r,(k,r)∈C.roots→rc1 k=rc k∧∀ b∈blocks r (rc k),w1.heap[b]? = w.heap[b]?)
  (htn:(s1.tmps.map (·.1)).Nodup)
  (htm:∀ t v,(t,v)∈s1.tmps→(t,v)∈s.tmps)
  (hs:∀ t v,(t,v)∈s1.tmps++C.tmps→∀ k,(∀ p,refsAt k p v→HS w w1 (getR C s) (getR C s1) rc rc1 k p)∧(brefs k v=true→BS (getR C s) (getR C s1) rc rc1 k)) (hdr:w.drawn≤w1.drawn:=by first|exact Nat.le_refl _|exact Nat.le_succ _) :
  Rel rc1 ex1 C s1 X w0 a w1:=by
 have hbz:∀ b∈ex1++allB rc1 (s1.roots++C.roots),b∈ex++allB rc (s.roots++C.roots)∨w.heap.size≤b:=fun b hb=>(bnd1 b hb).2
 have hf:∀ b,fzOf X w (ex++allB rc (s.roots++C.roots)) b→fzOf X w1 (ex1++allB rc1 (s1.roots++C.roots)) b∧w1.heap[b]? = w.heap[b]?:=
  fun b hb=>⟨fzOf_mono hsz hbz hb,hfz b hb.1 hb.2⟩
 refine⟨keys1,excl1,fun b hb=>⟨(bnd1 b hb).1,?_⟩,?_,htn,fun t v htv=>h.td t v (htm t v htv),?_,?_,h.nd,h.zok,fun k b hb=>?_,h.tsz,fun k r hk hi=>?_⟩
 rotate_right 2
 · obtain⟨⟨r,hk,hb'⟩,h2⟩:=h.cfx k b hb
   obtain⟨e1,e2⟩:=hcs k r hk
   exact⟨⟨r,hk,by rw[e1];exact hb'⟩,(e2 b hb').trans h2⟩
 · rcases hroots k r hk with⟨h1,h2,_⟩|⟨_,h'⟩
   · rw[h2];exact h.inn k r h1 hi
   · obtain⟨r0,g1,g2,g3,g4,g5⟩:=h' hi
     obtain⟨k1,k2⟩:=h.inn k r0 g1 g2
     exact⟨fun hb=>(g4 hb).trans (k1 (g3.trans hb)),fun hb=>(g5 hb).trans (k2 (g3.trans hb))⟩
 · rcases hbz b hb with h'|h'
   · exact(h.bnd b h').2
   · exact .inl (Nat.le_trans h.ext.size h')
 · intro k r hk
   rcases hroots k r hk with⟨h1,h2,h3⟩|⟨h',_⟩
   · rw[h2];exact(h.roots k r h1).stable hf h3
   · exact h'
 · intro t v htv
   have hold:(t,v)∈s.tmps++C.tmps:=by
    rcases List.mem_append.mp htv with h'|h'
    · exact List.mem_append_left _ (htm t v h')
    · exact List.mem_append_right _ h'
   obtain⟨c,h1,h2⟩:=h.tm t v hold
   exact⟨c,h1,h2.stable hf (fun k p hk=>(hs t v htv k).1 p hk) (fun k hk=>(hs t v htv k).2 hk)⟩
 · refine⟨hos.trans h.ext.os,htape.trans h.ext.tape,hout.trans h.ext.output,Nat.le_trans h.ext.size hsz,fun b hb hx=>?_,Nat.le_trans h.ext.drawn hdr⟩
   have:b∉ex++allB rc (s.roots++C.roots):=by
    intro hm
    rcases (h.bnd b hm).2 with h'|h'
    · omega
    · exact hx h'
   exact(hfz b (Nat.lt_of_lt_of_le hb h.ext.size) this).trans (h.ext.block b hb hx)
end Go.V
namespace Go.V
open Go
theorem upd_perm {α:Type} (k:Nat) (v:α) (l:List (Nat×α)):(upd k v l).Perm ((k,v)::del k l):=by
 induction l with
 |nil=>exact .refl _
 | cons q l ih=>
   obtain⟨j,u⟩:=q
   cases hb:Nat.beq j k with
   |true=>simp[upd,del,hb]
   |false=>simp only[upd,del,hb];exact(ih.cons _).trans (.swap _ _ _)
theorem del_sub {α:Type} (k:Nat) (l:List (Nat×α)):(del k l).Sublist l:=by
 induction l with
 |nil=>exact .refl _
 | cons q l ih=>
   obtain⟨j,u⟩:=q
   cases hb:Nat.beq j k with
   |true=>simp[del,hb]
   |false=>simp only[del,hb];exact ih.cons_cons _
theorem del_keys {α:Type} {k:Nat} {l:List (Nat×α)} (hn:(l.map (·.1)).Nodup):∀ {j v},(j,v)∈del k l→j≠k:=by
 induction l with
 |nil=>intro j v h;simp[del]at h
 | cons q l ih=>
   obtain⟨i,u⟩:=q
   simp only[List.map_cons,List.nodup_cons]at hn
   intro j v h
   cases hb:Nat.beq i k with
   | true=>
     have:=Nat.eq_of_beq_eq_true hb
     subst this
     simp only[del,hb]at h
     rintro rfl
     exact hn.1 (List.mem_map.mpr ⟨_,h,rfl⟩)
   | false=>
     simp only[del,hb]at h
     rcases List.mem_cons.mp h with h|h
     · cases h;rintro rfl;simp at hb
     · exact ih hn.2 h
theorem mem_del {α:Type} {k j:Nat} {v:α} {l:List (Nat×α)} (h:(j,v)∈l) (hj:j≠k):(j,v)∈del k l:=by
 induction l with
 |nil=>simp at h
 | cons q l ih=>
   obtain⟨i,u⟩:=q
   cases hb:Nat.beq i k with
   | true=>
     have:=Nat.eq_of_beq_eq_true hb
     subst this
     simp only[del,hb]
     rcases List.mem_cons.mp h with h|h
     · cases h;exact absurd rfl hj
     · exact h
   | false=>
     simp only[del,hb]
     rcases List.mem_cons.mp h with h|h
     · cases h;simp
     · exact List.mem_cons_of_mem _ (ih h)
theorem upd_keys_nodup {α:Type} {k:Nat} {v:α} {l m:List (Nat×α)} (hn:((l++m).map (·.1)).Nodup) (hk:∀ u,(k,u)∉m) :
  ((upd k v l++m).map (·.1)).Nodup:=by
 have hl:(l.map (·.1)).Nodup:=by rw[List.map_append]at hn;exact(List.nodup_append.mp hn).1
 have hp:((upd k v l++m).map (·.1)).Perm (k::(del k l++m).map (·.1)):=by
  have:=((upd_perm k v l).append_right m).map (·.1)
  simpa using this
 rw[hp.nodup_iff,List.nodup_cons]
 constructor
 · intro h
   obtain⟨⟨j,u⟩,h1,h2⟩:=List.mem_map.mp h
   rcases List.mem_append.mp h1 with h3|h3
   · exact del_keys hl h3 h2
   · simp only at h2;subst h2;exact hk u h3
 · exact List.Nodup.sublist (((del_sub k l).append_right m).map _) hn
theorem mem_upd {α:Type} {k j:Nat} {u v:α} {l:List (Nat×α)} (hn:(l.map (·.1)).Nodup) (h:(j,u)∈upd k v l):(j=k∧u=v)∨(j≠k∧(j,u)∈l):=by
 have h':=(upd_perm k v l).mem_iff.mp h
 rcases List.mem_cons.mp h' with h'|h'
 · cases h';exact .inl ⟨rfl,rfl⟩
 · exact .inr ⟨del_keys hn h',(del_sub k l).subset h'⟩
theorem look_upd {α:Type} (k j:Nat) (v:α) (l:List (Nat×α)):look j (upd k v l)=if j=k then some v else look j l:=by
 induction l with
 | nil=>
   simp only[upd,look]
   by_cases h:j=k
   · subst h;simp
   · have:Nat.beq k j=false:=by rw[Bool.eq_false_iff];intro hb;exact h (Nat.eq_of_beq_eq_true hb).symm
     simp[this,h]
 | cons q l ih=>
   obtain⟨i,u⟩:=q
   cases hb:Nat.beq i k with
   | true=>
     have:=Nat.eq_of_beq_eq_true hb
     subst this
     simp only[upd,hb,look]
     by_cases h:j=i
     · subst h;simp
     · have:Nat.beq i j=false:=by rw[Bool.eq_false_iff];intro hb;exact h (Nat.eq_of_beq_eq_true hb).symm
       simp[this,h]
   | false=>
     simp only[upd,hb,look,ih]
     by_cases h:j=k
     · subst h;simp[hb]
     · simp[h]
theorem Rel.put {rc:Nat→RC} {ex:List Nat} {C s s':St} {X:Fr} {w0:World} {a:Act} {w:World} (h:Rel rc ex C s X w0 a w) {d:Nat} {v:Val} {c:Value}
  (hv:VOk w (fzOf X w (ex++allB rc (s.roots++C.roots))) (getR C s) rc v c) (hp:put C s d v=some s') (hd:d<a.tmps.size) :
  Rel rc ex C s' X w0 (a.put (some d) c) w:=by
 unfold Go.V.put at hp
 split at hp
 · rename_i hlook
   cases hp
   refine⟨h.keys,h.excl,h.bnd,h.roots,?_,?_,?_,h.ext,h.nd,h.zok,h.cfx,by simp[Act.put,h.tsz],h.inn⟩
   · have:=upd_keys_nodup (l:=s.tmps) (m:=[]) (k:=d) (v:=v) (by simpa using h.tn) (by simp)
     simpa using this
   · intro t u htu
     rcases mem_upd h.tn htu with⟨rfl,rfl⟩|⟨_,h'⟩
     · exact hlook
     · exact h.td t u h'
   · intro t u htu
     have hR:getR C { tmps:=upd d v s.tmps,roots:=s.roots }=getR C s:=rfl
     rw[hR]
     have key:∀ t,t≠d→(a.put (some d) c).tmps[t]? = a.tmps[t]?:=by
      intro t ht;simp[Act.put,Array.getElem?_setIfInBounds_ne (Ne.symm ht)]
     rcases List.mem_append.mp htu with h'|h'
     · rcases mem_upd h.tn h' with⟨rfl,rfl⟩|⟨hne,h'⟩
       · exact⟨c,by simp[Act.put,hd],hv⟩
       · rw[key t hne];exact h.tm t u (List.mem_append_left _ h')
     · have hne:t≠d:=by rintro rfl;exact look_none.mp hlook u h'
       rw[key t hne];exact h.tm t u (List.mem_append_right _ h')
 · simp at hp
theorem Rel.getT {rc:Nat→RC} {ex:List Nat} {C s:St} {X:Fr} {w0:World} {a:Act} {w:World} (h:Rel rc ex C s X w0 a w) {t:Nat} {v:Val} (hv:getT C s t=some v) :
  ∃ c,a.tmps[t]? = some c∧VOk w (fzOf X w (ex++allB rc (s.roots++C.roots))) (getR C s) rc v c:=by
 unfold Go.V.getT at hv
 split at hv
 · rename_i u hu;cases hv;exact h.tm t _ (List.mem_append_left _ (look_mem hu))
 · exact h.tm t v (List.mem_append_right _ (look_mem hv))
theorem Rel.root {rc:Nat→RC} {ex:List Nat} {C s:St} {X:Fr} {w0:World} {a:Act} {w:World} (h:Rel rc ex C s X w0 a w) {k:Nat} {r:Root} (hr:getR C s k=some r) :
 RootOk w (fzOf X w (ex++allB rc (s.roots++C.roots))) r (rc k):=h.roots k r ((mem_getR h.keys).mp hr)
theorem getR_upd {C:St} {ts ts':List (Nat×Val)} {rs:List (Nat×Root)} {k j:Nat} {r:Root} :
  getR C ⟨ts',upd k r rs⟩ j=if j=k then some r else getR C ⟨ts,rs⟩ j:=by
 unfold getR
 simp only[look_upd]
 by_cases h:j=k<;>simp[h]
theorem killT_mem {all:Bool} {k t:Nat} {v:Val} {l:List (Nat×Val)} (h:(t,v)∈killT all k l):(t,v)∈l∧refs all k v=false:=by
 induction l with
 |nil=>simp[killT]at h
 | cons q l ih=>
   obtain⟨j,u⟩:=q
   cases hr:refs all k u with
   |true=>simp only[killT,hr]at h;exact⟨List.mem_cons_of_mem _ (ih h).1,(ih h).2⟩
   | false=>
     simp only[killT,hr]at h
     rcases List.mem_cons.mp h with h|h
     · cases h;exact⟨by simp,hr⟩
     · exact⟨List.mem_cons_of_mem _ (ih h).1,(ih h).2⟩
theorem killT_sub (all:Bool) (k:Nat) (l:List (Nat×Val)):(killT all k l).Sublist l:=by
 induction l with
 |nil=>exact .refl _
 | cons q l ih=>
   obtain⟨j,u⟩:=q
   cases hr:refs all k u with
   |true=>simp only[killT,hr];exact ih.cons _
   |false=>simp only[killT,hr];exact ih.cons_cons _
theorem killI_mem {k t:Nat} {v:Val} {l:List (Nat×Val)} (h:(t,v)∈killI k l):(t,v)∈l∧refsI k v=false:=by
 induction l with
 |nil=>simp[killI]at h
 | cons q l ih=>
   obtain⟨j,u⟩:=q
   cases hr:refsI k u with
   |true=>simp only[killI,hr]at h;exact⟨List.mem_cons_of_mem _ (ih h).1,(ih h).2⟩
   | false=>
     simp only[killI,hr]at h
     rcases List.mem_cons.mp h with h|h
     · cases h;exact⟨by simp,hr⟩
     · exact⟨List.mem_cons_of_mem _ (ih h).1,(ih h).2⟩
theorem killI_sub (k:Nat) (l:List (Nat×Val)):(killI k l).Sublist l:=by
 induction l with
 |nil=>exact .refl _
 | cons q l ih=>
   obtain⟨j,u⟩:=q
   cases hr:refsI k u with
   |true=>simp only[killI,hr];exact ih.cons _
   |false=>simp only[killI,hr];exact ih.cons_cons _
theorem anyRef_false {all:Bool} {k t:Nat} {v:Val} {l:List (Nat×Val)} (h:anyRef all k l=false) (hm:(t,v)∈l):refs all k v=false:=by
 induction l with
 |nil=>simp at hm
 | cons q l ih=>
   obtain⟨j,u⟩:=q
   simp only[anyRef,Bool.or_eq_false_iff]at h
   rcases List.mem_cons.mp hm with hm|hm
   · cases hm;exact h.1
   · exact ih h.2 hm
theorem refs_true_of {k:Nat} {v:Val} (h:refs true k v=false):refs false k v=false∧brefs k v=false:=by
 induction v with
 |pair a b iha ihb=>simp only[refs,Bool.or_eq_false_iff]at h;simp[refs,brefs,iha h.1,ihb h.2]
 |tup a b iha ihb=>simp only[refs,Bool.or_eq_false_iff]at h;simp[refs,brefs,iha h.1,ihb h.2]
 |clo f c ih=>simpa [refs,brefs]using ih h
 |vbox c ih=>simpa [refs,brefs]using ih h
 |own k p=>simpa [refs,brefs]using h
 |baddr k p=>simpa [refs,brefs]using h
 |eaddr k p i fp=>simpa [refs,brefs]using h
 |sub k p lo hi=>simpa [refs,brefs]using h
 |_=>simp[refs,brefs]
theorem allB_perm {rc:Nat→RC} {l m:List (Nat×Root)} (h:l.Perm m):(allB rc l).Perm (allB rc m):=h.flatMap_right _
theorem allB_congr {rc rc1:Nat→RC} {l:List (Nat×Root)} (h:∀ k r,(k,r)∈l→rc1 k=rc k):allB rc1 l=allB rc l:=by
 unfold allB
 induction l with
 |nil=>rfl
 | cons q l ih=>
   obtain⟨j,u⟩:=q
   simp only[List.flatMap_cons]
   rw[h j u (by simp),ih fun k r hk=>h k r (List.mem_cons_of_mem _ hk)]
theorem allB_append {rc:Nat→RC} {l m:List (Nat×Root)}:allB rc (l++m)=allB rc l++allB rc m:=by simp[allB]
theorem allB_cons {rc:Nat→RC} {k:Nat} {r:Root} {l:List (Nat×Root)}:allB rc ((k,r)::l)=blocks r (rc k)++allB rc l:=by simp[allB]
theorem allB_sub {rc:Nat→RC} {l m:List (Nat×Root)} (h:l.Sublist m):(allB rc l).Sublist (allB rc m):=by
 induction h with
 |slnil=>exact .refl _
 |cons q _ ih=>obtain⟨j,u⟩:=q;rw[allB_cons];exact ih.trans (List.sublist_append_right _ _)
 |cons_cons q _ ih=>obtain⟨j,u⟩:=q;rw[allB_cons,allB_cons];exact ih.append_left _
theorem mem_allB {rc:Nat→RC} {l:List (Nat×Root)} {b:Nat}:b∈allB rc l↔∃ k r,(k,r)∈l∧b∈blocks r (rc k):=by
 simp[allB,List.mem_flatMap]
theorem upd_self {α:Type} {k:Nat} {v:α}:∀ {l:List (Nat×α)},(l.map (·.1)).Nodup→(k,v)∈l→upd k v l=l:=by
 intro l
 induction l with
 |nil=>intro _ h;simp at h
 | cons p l ih=>
   obtain⟨i,u⟩:=p
   intro hsn h1
   simp only[List.map_cons,List.nodup_cons]at hsn
   cases hb:Nat.beq i k with
   | true=>
     have:=Nat.eq_of_beq_eq_true hb
     subst this
     rcases List.mem_cons.mp h1 with h'|h'
     · cases h';simp[upd]
     · exact absurd (List.mem_map.mpr ⟨_,h',rfl⟩) hsn.1
   | false=>
     simp only[upd,hb]
     congr 1
     refine ih hsn.2 ?_
     rcases List.mem_cons.mp h1 with h'|h'
     · cases h';simp at hb
     · exact h'
def setRc (rc:Nat→RC) (k:Nat) (q:RC) (j:Nat):RC:=if j=k then q else rc j
theorem Rel.setRoot {rc:Nat→RC} {ls ex:List Nat} {C s:St} {X:Fr} {w0:World} {a:Act} {w w1:World} (h:Rel rc (ls++ex) C s X w0 a w)
  {k:Nat} {r:Root} {q:RC} {ts:List (Nat×Val)} (mine out:List Nat)
  (hC:look k C.roots=none)
  (hinn:r.inn=true→∃ r0,(k,r0)∈s.roots∧r0.inn=true∧r0.box=r.box∧(r.box=false→q.cs=(rc k).cs)∧(r.box=true→q.blk=(rc k).blk))
  (hmine:∀ b∈mine,b∈ls∨∃ r0,(k,r0)∈s.roots∧b∈blocks r0 (rc k))
  (hsz:w.heap.size≤w1.heap.size) (hos:w1.os=w.os) (htape:w1.tape=w.tape) (hout:w1.output=w.output)
  (hsame:∀ b,b<w.heap.size→b∉mine→w1.heap[b]? = w.heap[b]?)
  (hon:(out++blocks r q).Nodup) (hom:∀ b∈out,b∈mine) (hqb:∀ b∈blocks r q,b<w1.heap.size∧(b∈mine∨w.heap.size≤b))
  (hok:∀ fz1:Nat→Prop,(∀ b,fzOf X w (ls++ex++allB rc (s.roots++C.roots)) b→fz1 b)→(∀ b∈mine,b∉blocks r q→b∉out→fz1 b)→RootOk w1 fz1 r q)
  (hts:ts.Sublist s.tmps)
  (hHS:∀ t v,(t,v)∈ts++C.tmps→(∀ p,refsAt k p v→HS w w1 (getR C s) (getR C ⟨ts,upd k r s.roots⟩) rc (setRc rc k q) k p)∧
   (brefs k v=true→BS (getR C s) (getR C ⟨ts,upd k r s.roots⟩) rc (setRc rc k q) k)) (hdr:w.drawn≤w1.drawn:=by first|exact Nat.le_refl _|exact Nat.le_succ _) :
  Rel (setRc rc k q) (out++ex) C ⟨ts,upd k r s.roots⟩ X w0 a w1:=by
 have hsn:(s.roots.map (·.1)).Nodup:=by have:=h.keys;rw[List.map_append]at this;exact(List.nodup_append.mp this).1
 have hkC:∀ u,(k,u)∉C.roots:=look_none.mp hC
 have hperm:(upd k r s.roots++C.roots).Perm ((k,r)::(del k s.roots++C.roots)):=by simpa using (upd_perm k r s.roots).append_right C.roots
 have hrest:∀ j u,(j,u)∈del k s.roots++C.roots→j≠k:=by
  intro j u hj
  rcases List.mem_append.mp hj with hj1|hj1
  · exact del_keys hsn hj1
  · rintro rfl;exact hkC u hj1
 have hsubr:(del k s.roots++C.roots).Sublist (s.roots++C.roots):=(del_sub k s.roots).append_right _
 have hall:(allB (setRc rc k q) (upd k r s.roots++C.roots)).Perm (blocks r q++allB rc (del k s.roots++C.roots)):=by
  refine(allB_perm hperm).trans ?_
  rw[allB_cons,show setRc rc k q k=q by simp[setRc]]
  refine List.Perm.append_left _ ?_
  rw[allB_congr (rc:=rc) fun j u hj=>by simp[setRc,hrest j u hj]]
 have hex:=h.excl
 have hexs:(ls++(ex++allB rc (del k s.roots++C.roots))).Nodup:=by
  rw[←List.append_assoc];exact List.Nodup.sublist ((allB_sub hsubr).append_left _) hex
 have hmineap:∀ b∈mine,b∉ex++allB rc (del k s.roots++C.roots):=by
  intro b hb hm
  rcases hmine b hb with h'|⟨r0,h1,h2⟩
  · exact(List.nodup_append.mp hexs).2.2 _ h' _ hm rfl
  · have hp:(s.roots++C.roots).Perm ((k,r0)::(del k s.roots++C.roots)):=by
     have:s.roots.Perm ((k,r0)::del k s.roots):=by
      have h3:upd k r0 s.roots=s.roots:=upd_self hsn h1
      have:=upd_perm k r0 s.roots
      rw[h3]at this;exact this
     simpa using this.append_right C.roots
    have h4:(allB rc (s.roots++C.roots)).Perm (blocks r0 (rc k)++allB rc (del k s.roots++C.roots)):=by
     refine(allB_perm hp).trans ?_
     rw[allB_cons]
    have h5:(ls++ex++(blocks r0 (rc k)++allB rc (del k s.roots++C.roots))).Nodup:=((List.Perm.append_left (ls++ex) h4).nodup_iff).mp hex
    rcases List.mem_append.mp hm with hm|hm
    · exact(List.nodup_append.mp h5).2.2 b (by simp[hm]) b (by simp[h2]) rfl
    · exact(List.nodup_append.mp (List.nodup_append.mp h5).2.1).2.2 b h2 b hm rfl
 have hexsub:∀ b∈ex++allB rc (del k s.roots++C.roots),b∈ls++ex++allB rc (s.roots++C.roots):=by
  intro b hb
  rcases List.mem_append.mp hb with hb|hb
  · simp[hb]
  · have:=(allB_sub hsubr).subset hb;simp only[List.mem_append];exact .inr this
 have hall':(out++ex++allB (setRc rc k q) (upd k r s.roots++C.roots)).Perm ((out++blocks r q)++(ex++allB rc (del k s.roots++C.roots))):=by
  refine(hall.append_left (out++ex)).trans ?_
  simp only[List.append_assoc]
  refine List.Perm.append_left out ?_
  rw[←List.append_assoc,←List.append_assoc]
  exact List.Perm.append_right _ List.perm_append_comm
 have hmineold:∀ b∈mine,b∈ls++ex++allB rc (s.roots++C.roots):=by
  intro b hb
  rcases hmine b hb with h'|⟨r0,h1,h2⟩
  · simp[h']
  · simp only[List.mem_append];exact .inr (mem_allB.mpr ⟨k,r0,List.mem_append_left _ h1,h2⟩)
 refine h.step (s1:=⟨ts,upd k r s.roots⟩) ?_ ?_ ?_ hsz hos htape hout ?_ ?_ ?_ ?_ ?_ ?_ hdr
 · exact upd_keys_nodup h.keys hkC
 · rw[hall'.nodup_iff,List.nodup_append]
   refine⟨hon,(List.nodup_append.mp hexs).2.1,?_⟩
   rintro b hb c hc rfl
   rcases List.mem_append.mp hb with hb|hb
   · exact hmineap b (hom b hb) hc
   rcases (hqb b hb).2 with h'|h'
   · exact hmineap b h' hc
   · have:=(h.bnd b (hexsub b hc)).1;omega
 · intro b hb
   have hb':=hall'.mem_iff.mp hb
   rcases List.mem_append.mp hb' with h'|h'
   · rcases List.mem_append.mp h' with h'|h'
     · exact⟨Nat.lt_of_lt_of_le (h.bnd b (hmineold b (hom b h'))).1 hsz,.inl (hmineold b (hom b h'))⟩
     refine⟨(hqb b h').1,?_⟩
     rcases (hqb b h').2 with h2|h2
     · exact .inl (hmineold b h2)
     · exact .inr h2
   · exact⟨Nat.lt_of_lt_of_le (h.bnd b (hexsub b h')).1 hsz,.inl (hexsub b h')⟩
 · intro b hb hn
   exact hsame b hb fun hm=>hn (hmineold b hm)
 · intro j u hj
   have hj':=hperm.mem_iff.mp hj
   rcases List.mem_cons.mp hj' with hj'|hj'
   · cases hj'
     right
     rw[show setRc rc k q k=q by simp[setRc]]
     refine⟨?_,fun hi=>by obtain⟨r0,g1,g2⟩:=hinn hi;exact⟨r0,List.mem_append_left _ g1,g2⟩⟩
     refine hok _ (fun b hb=>fzOf_mono hsz ?_ hb) ?_
     · intro b hb'
       have hb':=hall'.mem_iff.mp hb'
       rcases List.mem_append.mp hb' with h'|h'
       · rcases List.mem_append.mp h' with h'|h'
         · exact .inl (hmineold b (hom b h'))
         rcases (hqb b h').2 with h2|h2
         · exact .inl (hmineold b h2)
         · exact .inr h2
       · exact .inl (hexsub b h')
     · intro b hb hnb hno
       refine⟨Nat.lt_of_lt_of_le (h.bnd b (hmineold b hb)).1 hsz,fun hm=>?_,(h.bnd b (hmineold b hb)).2.elim (h.zok.1 b) (h.zok.2 b)⟩
       have hm:=hall'.mem_iff.mp hm
       rcases List.mem_append.mp hm with h'|h'
       · rcases List.mem_append.mp h' with h'|h'
         · exact hno h'
         · exact hnb h'
       · exact hmineap b hb h'
   · left
     refine⟨hsubr.subset hj',by simp[setRc,hrest j u hj'],fun b hb=>?_⟩
     have hb2:b∈ex++allB rc (del k s.roots++C.roots):=List.mem_append_right _ (mem_allB.mpr ⟨j,u,hj',hb⟩)
     exact hsame b (h.bnd b (hexsub b hb2)).1 fun hm=>hmineap b hm hb2
 · intro j u hj
   have hjk:j≠k:=by rintro rfl;exact hkC u hj
   refine⟨by simp[setRc,hjk],fun b hb=>?_⟩
   have hb2:b∈ex++allB rc (del k s.roots++C.roots):=List.mem_append_right _ (mem_allB.mpr ⟨j,u,List.mem_append_right _ hj,hb⟩)
   exact hsame b (h.bnd b (hexsub b hb2)).1 fun hm=>hmineap b hm hb2
 · exact List.Nodup.sublist (hts.map _) h.tn
 · intro t v htv;exact hts.subset htv
 · intro t v htv j
   by_cases hjk:j=k
   · subst hjk;exact hHS t v htv
   · have hR:getR C ⟨ts,upd k r s.roots⟩ j=getR C s j:=by rw[getR_upd (ts:=s.tmps)];simp[hjk]
     have hq:setRc rc k q j=rc j:=by simp[setRc,hjk]
     refine⟨fun _ _=>HS.same (fz:=fzOf X w (ls++ex++allB rc (s.roots++C.roots))) hR hq ?_ ?_,fun _=>BS.same hR hq⟩
     · intro r1 hr1
       refine⟨h.root hr1,fun b hb=>?_⟩
       have hm:=(mem_getR h.keys).mp hr1
       have hm':(j,r1)∈del k s.roots++C.roots:=by
        rcases List.mem_append.mp hm with h'|h'
        · exact List.mem_append_left _ (mem_del h' hjk)
        · exact List.mem_append_right _ h'
       have hb2:b∈ex++allB rc (del k s.roots++C.roots):=List.mem_append_right _ (mem_allB.mpr ⟨j,r1,hm',hb⟩)
       exact hsame b (h.bnd b (hexsub b hb2)).1 fun hm=>hmineap b hm hb2
     · intro b hb
       exact hsame b hb.1 fun hm=>hb.2 (hmineold b hm)
theorem Rel.exPerm {rc:Nat→RC} {ex ex':List Nat} {C s:St} {X:Fr} {w0:World} {a:Act} {w:World} (h:Rel rc ex C s X w0 a w) (hp:ex.Perm ex'):Rel rc ex' C s X w0 a w:=by
 have hP:(ex++allB rc (s.roots++C.roots)).Perm (ex'++allB rc (s.roots++C.roots)):=hp.append_right _
 have hf:∀ b,fzOf X w (ex++allB rc (s.roots++C.roots)) b→fzOf X w (ex'++allB rc (s.roots++C.roots)) b∧w.heap[b]? = w.heap[b]?:=
  fun b hb=>⟨⟨hb.1,fun hm=>hb.2 (hP.mem_iff.mpr hm),hb.3⟩,rfl⟩
 refine⟨h.keys,hP.nodup_iff.mp h.excl,fun b hb=>h.bnd b (hP.mem_iff.mpr hb),fun k r hk=>(h.roots k r hk).stable hf fun _ _=>rfl,h.tn,h.td,fun t v htv=>?_,h.ext,h.nd,h.zok,h.cfx,h.tsz,h.inn⟩
 obtain⟨c,h1,h2⟩:=h.tm t v htv
 refine⟨c,h1,h2.stable hf (fun k _ _=>HS.same (fz:=fun _=>True) rfl rfl (fun r hr=>⟨?_,fun _ _=>rfl⟩) fun _ _=>rfl) fun k _=>BS.same rfl rfl⟩
 exact(h.root hr).stable (fun b _=>⟨trivial,rfl⟩) fun _ _=>rfl
theorem Rel.blocks_nodup {rc:Nat→RC} {ex:List Nat} {C s:St} {X:Fr} {w0:World} {a:Act} {w:World} (h:Rel rc ex C s X w0 a w) {k:Nat} {r:Root}
  (hr:getR C s k=some r):(blocks r (rc k)).Nodup:=by
 have hm:=(mem_getR h.keys).mp hr
 have h1:=(List.nodup_append.mp h.excl).2.1
 obtain⟨l1,l2,e⟩:=List.append_of_mem hm
 rw[e,allB_append,allB_cons]at h1
 exact(List.nodup_append.mp (List.nodup_append.mp h1).2.1).1
theorem look_del {α:Type} {k j:Nat} {l:List (Nat×α)} (hj:j≠k):look j (del k l)=look j l:=by
 induction l with
 |nil=>rfl
 | cons q l ih=>
   obtain⟨i,u⟩:=q
   cases hb:Nat.beq i k with
   | true=>
     have:=Nat.eq_of_beq_eq_true hb
     subst this
     have:Nat.beq i j=false:=by rw[Bool.eq_false_iff];intro hb;exact hj (Nat.eq_of_beq_eq_true hb).symm
     simp[del,look,this]
   |false=>simp only[del,hb,look,ih]
theorem Rel.dropRoot {rc:Nat→RC} {ex:List Nat} {C s:St} {X:Fr} {w0:World} {a:Act} {w:World} (h:Rel rc ex C s X w0 a w) {k:Nat} {r:Root}
  (hr:getR C s k=some r) (hC:look k C.roots=none) (hA:anyRef true k C.tmps=false) :
  Rel rc (blocks r (rc k)++ex) C ⟨killT true k s.tmps,del k s.roots⟩ X w0 a w∧
   (∀ b,b∈blocks r (rc k)++ex++allB rc (del k s.roots++C.roots)↔b∈ex++allB rc (s.roots++C.roots))∧getR C ⟨killT true k s.tmps,del k s.roots⟩ k=none:=by
 have hsn:(s.roots.map (·.1)).Nodup:=by have:=h.keys;rw[List.map_append]at this;exact(List.nodup_append.mp this).1
 have hmem:(k,r)∈s.roots:=by
  have:=(mem_getR h.keys).mp hr
  rcases List.mem_append.mp this with h'|h'
  · exact h'
  · exact absurd h' (look_none.mp hC r)
 have hperm:(s.roots++C.roots).Perm ((k,r)::(del k s.roots++C.roots)):=by
  have:=upd_perm k r s.roots
  rw[upd_self hsn hmem]at this
  simpa using this.append_right C.roots
 have hall:(ex++allB rc (s.roots++C.roots)).Perm (blocks r (rc k)++ex++allB rc (del k s.roots++C.roots)):=by
  refine((allB_perm hperm).append_left ex).trans ?_
  rw[allB_cons,←List.append_assoc]
  exact List.Perm.append_right _ List.perm_append_comm
 have hsubr:(del k s.roots++C.roots).Sublist (s.roots++C.roots):=(del_sub k s.roots).append_right _
 have hnone:getR C ⟨killT true k s.tmps,del k s.roots⟩ k=none:=by
  unfold getR
  have:look k (del k s.roots)=none:=look_none.mpr fun v hv=>del_keys hsn hv rfl
  simp[this,hC]
 refine⟨h.step (s1:=⟨killT true k s.tmps,del k s.roots⟩) ?_ ?_ ?_ (Nat.le_refl _) rfl rfl rfl (fun _ _ _=>rfl) ?_ (fun _ _ _=>⟨rfl,fun _ _=>rfl⟩) ?_ ?_ ?_,fun b=>hall.symm.mem_iff,hnone⟩
 · exact List.Nodup.sublist (hsubr.map _) h.keys
 · exact hall.nodup_iff.mp h.excl
 · intro b hb;exact⟨(h.bnd b (hall.mem_iff.mpr hb)).1,.inl (hall.mem_iff.mpr hb)⟩
 · intro j u hj;exact .inl ⟨hsubr.subset hj,rfl,fun _ _=>rfl⟩
 · exact List.Nodup.sublist ((killT_sub _ _ _).map _) h.tn
 · intro t v htv;exact(killT_mem htv).1
 · intro t v htv j
   have hrf:refs true k v=false:=by
    rcases List.mem_append.mp htv with h'|h'
    · exact(killT_mem h').2
    · exact anyRef_false hA h'
   by_cases hjk:j=k
   · subst hjk
     have:=refs_true_of hrf
     exact⟨fun p hp=>by rw[refsAt_refs hp]at this;simp at this,by simp[this.2]⟩
   · have hR:getR C ⟨killT true k s.tmps,del k s.roots⟩ j=getR C s j:=by unfold getR;simp only[look_del hjk]
     refine⟨fun _ _=>HS.same (fz:=fun _=>True) hR rfl (fun r hr=>⟨(h.root hr).stable (fun b _=>⟨trivial,rfl⟩) fun _ _=>rfl,fun _ _=>rfl⟩) fun _ _=>rfl,fun _=>BS.same hR rfl⟩
end Go.V
namespace Go.V
open Go
theorem RepL.freeze {α:Type} {R S:α→List Value→List Nat→Prop} {l:List α}:∀ {cs bs},RepL R l cs bs→
  (∀ x∈l,∀ c b,(∀ i∈b,i∈bs)→R x c b→S x c [])→RepL S l cs []:=by
 induction l with
 |nil=>rintro cs bs ⟨rfl,_⟩ _;exact⟨rfl,rfl⟩
 | cons x l ih=>
   rintro cs bs ⟨c1,c2,b1,b2,rfl,rfl,h1,h2⟩ H
   exact⟨c1,c2,[],[],rfl,rfl,H x (by simp) _ _ (by intro i hi;simp[hi]) h1,ih h2 fun y hy c b hb hr=>H y (by simp[hy]) c b (fun i hi=>by simp[hb i hi]) hr⟩
theorem Rep.freeze {w:World} {fz fz1:Nat→Prop} (hf:∀ b,fz b→fz1 b):∀ {s:Sh} {o:O} {x:s.den} {cs bs},Rep w fz s o x cs bs→o.alive=true→(∀ b∈bs,fz1 b)→
  Rep w fz1 s .z x cs []:=by
 intro s
 induction s with
 |int k=>intro o x cs bs h ha _;exact⟨rfl,h.2.1,fun _=>h.2.2 (by rintro rfl;simp[O.alive]at ha)⟩
 |bool=>intro o x cs bs h ha _;exact⟨rfl,h.2.1,fun _=>h.2.2 (by rintro rfl;simp[O.alive]at ha)⟩
 |str=>intro o x cs bs h ha _;exact⟨rfl,h.2.1,fun _=>h.2.2 (by rintro rfl;simp[O.alive]at ha)⟩
 |unit=>intro o x cs bs h _ _;exact⟨rfl,h.2⟩
 | pair a b iha ihb=>
   intro o x cs bs h ha hb
   obtain⟨oa,ob,c1,c2,b1,b2,hoo,rfl,rfl,h1,h2⟩:=h.pair (by rintro rfl;simp[O.alive]at ha)
   have:oa.alive=true∧ob.alive=true:=by
    rcases hoo with⟨rfl,rfl,rfl⟩|rfl
    · exact⟨rfl,rfl⟩
    · simpa [O.alive]using ha
   exact⟨c1,c2,rfl,rfl,iha h1 this.1 fun i hi=>hb i (by simp[hi]),ihb h2 this.2 fun i hi=>hb i (by simp[hi])⟩
 | sl e a ih=>
   intro o x cs bs h ha hb
   cases o with
   |z=>have:=h.z_nil;subst this;exact Rep.stable (fun b hb=>⟨hf b hb,rfl⟩) h (by simp)
   | own oa=>
     obtain⟨v,es,ebs,rfl,h1,h2⟩:=h
     rcases h2 with⟨rfl,hx,rfl⟩|⟨g,cap,cur,rfl,h3,h4,h5,h6,h7,rfl⟩
     · have hx':x=([]:List a.den):=hx
       subst hx'
       obtain⟨rfl,rfl⟩:es=[]∧ebs=[]:=h1
       exact⟨none,0,[],rfl,rfl,Nat.le_refl _,Nat.zero_le _,⟨rfl,rfl⟩,.inl rfl⟩
     · refine⟨some ⟨g,0,none⟩,cap,es,rfl,rfl,h4,h5,h1.freeze fun y _ c b hb' hr=>ih hr (by simpa [O.alive]using ha) fun i hi=>hb i (by simp[hb' i hi]),.inr ⟨g,0,rfl,hb g (by simp),cur,e,(0,0),h3,?_,?_⟩⟩
       · have:=h1.len fun _ _ _ hr=>hr.len
         rw[this,h6];have:=Nat.mul_le_mul_right a.size h4;omega
       · have:=h1.len fun _ _ _ hr=>hr.len
         rw[List.drop_zero,this];exact h7
   |dead=>simp[O.alive]at ha
   |pr _ _=>exact h.elim
 | ptr a ih=>
   intro o x cs bs h ha hb
   cases o with
   |z=>have:=h.z_nil;subst this;exact Rep.stable (fun b hb=>⟨hf b hb,rfl⟩) h (by simp)
   | own oa=>
     obtain⟨g,cur,e,ebs,rfl,h1,h2,rfl⟩:=h
     exact⟨g,0,cur.toList,rfl,rfl,hb g (by simp),ih h2 (by simpa [O.alive]using ha) fun i hi=>hb i (by simp[hi]),cur,e,(0,0),h1,by simp,by simp[List.take_of_length_le]⟩
   |dead=>simp[O.alive]at ha
   |pr _ _=>exact h.elim
 | fn f c ih=>
   intro o x cs bs h ha hb
   cases o with
   |dead=>simp[O.alive]at ha
   |_=>obtain⟨ccs,rfl,h⟩:=h;exact⟨ccs,rfl,ih h ha hb⟩
 | tok a b iha ihb=>
   intro o x cs bs h ha hb
   refine⟨rfl,h.2.1,fun _=>?_⟩
   obtain⟨e1,c1,c2,e2,h1,h2⟩:=h.2.2 (by rintro rfl;simp[O.alive]at ha)
   exact⟨e1,c1,c2,e2,iha h1 rfl (by simp),ihb h2 rfl (by simp)⟩
 | md a ih=>
   intro o x cs bs h ha hb
   obtain⟨b,y⟩:=x
   cases b with
   |false=>exact⟨rfl,h.2⟩
   |true=>exact ih h ha hb
theorem le_z {o:O} (h:le o .z=true):o.alive=true:=by
 cases o<;>simp[le]at h<;>first|exact h|rfl
theorem le_dead {o:O} (h:le .dead o=true):o = .dead:=by cases o<;>simp[le]at h<;>rfl
def Weak (w:World) (fz:Nat→Prop) (s:Sh) (o':O) (x:s.den) (cs:List Value) (bs:List Nat):Prop:=
 ∃ bs' rest,bs.Perm (bs'++rest)∧∀(w1:World) (fz1:Nat→Prop),(∀ b,fz b→fz1 b∧w1.heap[b]? = w.heap[b]?)→(∀ b∈bs,w1.heap[b]? = w.heap[b]?)→(∀ b∈rest,fz1 b)→Rep w1 fz1 s o' x cs bs'
theorem RepL.weak {w:World} {fz:Nat→Prop} {s:Sh} {o o':O} (H:∀ {x:s.den} {cs bs},Rep w fz s o x cs bs→Weak w fz s o' x cs bs):∀ {l:List s.den} {cs bs},RepL (Rep w fz s o) l cs bs→
  ∃ bs' rest,bs.Perm (bs'++rest)∧∀(w1:World) (fz1:Nat→Prop),(∀ b,fz b→fz1 b∧w1.heap[b]? = w.heap[b]?)→(∀ b∈bs,w1.heap[b]? = w.heap[b]?)→(∀ b∈rest,fz1 b)→RepL (Rep w1 fz1 s o') l cs bs':=by
 intro l
 induction l with
 |nil=>rintro cs bs ⟨rfl,rfl⟩;exact⟨[],[],.refl _,fun _ _ _ _ _=>⟨rfl,rfl⟩⟩
 | cons x l ih=>
   rintro cs bs ⟨c1,c2,b1,b2,rfl,rfl,h1,h2⟩
   obtain⟨p1,r1,g1,g2⟩:=H h1
   obtain⟨p2,r2,k1,k2⟩:=ih h2
   refine⟨p1++p2,r1++r2,(g1.append k1).trans ?_,fun w1 fz1 hf hb hr=>⟨c1,c2,p1,p2,rfl,rfl,g2 w1 fz1 hf (fun i hi=>hb i (by simp[hi])) fun i hi=>hr i (by simp[hi]),
    k2 w1 fz1 hf (fun i hi=>hb i (by simp[hi])) fun i hi=>hr i (by simp[hi])⟩⟩
   simp only[List.append_assoc]
   refine List.Perm.append_left _ ?_
   rw[←List.append_assoc,←List.append_assoc]
   exact List.Perm.append_right _ List.perm_append_comm
theorem Rep.weak {w:World} {fz:Nat→Prop}:∀ {s:Sh} {o o':O} {x:s.den} {cs bs},Rep w fz s o x cs bs→le o o'=true→Weak w fz s o' x cs bs:=by
 have dead:∀ {s:Sh} {o:O} {x:s.den} {cs bs},Rep w fz s o x cs bs→Weak w fz s .dead x cs bs:=by
  intro s o x cs bs h
  exact⟨[],bs,by simp,fun w1 fz1 _ _ _=>Rep.dead x h.len h.one⟩
 have z:∀ {s:Sh} {o:O} {x:s.den} {cs bs},Rep w fz s o x cs bs→o.alive=true→Weak w fz s .z x cs bs:=by
  intro s o x cs bs h ha
  refine⟨[],bs,by simp,fun w1 fz1 hf hb hr=>?_⟩
  have h1:Rep w (fun b=>fz b∨b∈bs) s .z x cs []:=h.freeze (fun b hb=>.inl hb) ha fun b hb=>.inr hb
  refine h1.stable (fun b hb'=>?_) (by simp)
  rcases hb' with hb'|hb'
  · exact hf b hb'
  · exact⟨hr b hb',hb b hb'⟩
 have same:∀ {s:Sh} {o:O} {x:s.den} {cs bs},Rep w fz s o x cs bs→Weak w fz s o x cs bs:=by
  intro s o x cs bs h
  exact⟨bs,[],by simp,fun w1 fz1 hf hb _=>h.stable hf hb⟩
 intro s
 induction s with
 | pair a b iha ihb=>
   intro o o' x cs bs h hl
   cases o' with
   |dead=>exact dead h
   |z=>exact z h (le_z hl)
   |own _=>cases o<;>simp[le]at hl;exact h.elim
   | pr oa' ob'=>
     cases o with
     | pr oa ob=>
       simp only[le,Bool.and_eq_true]at hl
       obtain⟨c1,c2,b1,b2,rfl,rfl,h1,h2⟩:=h
       obtain⟨p1,r1,g1,g2⟩:=iha h1 hl.1
       obtain⟨p2,r2,k1,k2⟩:=ihb h2 hl.2
       refine⟨p1++p2,r1++r2,(g1.append k1).trans ?_,fun w1 fz1 hf hb hr=>⟨c1,c2,p1,p2,rfl,rfl,g2 w1 fz1 hf (fun i hi=>hb i (by simp[hi])) fun i hi=>hr i (by simp[hi]),
        k2 w1 fz1 hf (fun i hi=>hb i (by simp[hi])) fun i hi=>hr i (by simp[hi])⟩⟩
       simp only[List.append_assoc]
       refine List.Perm.append_left _ ?_
       rw[←List.append_assoc,←List.append_assoc]
       exact List.Perm.append_right _ List.perm_append_comm
     |_=>simp[le]at hl
 | sl e a ih=>
   intro o o' x cs bs h hl
   cases o' with
   |dead=>exact dead h
   |z=>exact z h (le_z hl)
   |pr _ _=>cases o<;>simp[le]at hl;exact h.elim
   | own oa'=>
     cases o with
     | own oa=>
       simp only[le]at hl
       obtain⟨v,es,ebs,rfl,h1,h2⟩:=h
       obtain⟨p1,r1,g1,g2⟩:=RepL.weak (fun hr=>ih hr hl) h1
       rcases h2 with⟨rfl,hx,rfl⟩|⟨g,cap,cur,rfl,h3,h4,h5,h6,h7,rfl⟩
       · have hx':x=([]:List a.den):=hx
         subst hx'
         obtain⟨rfl,rfl⟩:es=[]∧ebs=[]:=h1
         exact⟨[],[],by simp,fun w1 fz1 _ _ _=>⟨_,[],[],rfl,⟨rfl,rfl⟩,.inl ⟨rfl,rfl,rfl⟩⟩⟩
       · refine⟨g::p1,r1,g1.cons _,fun w1 fz1 hf hb hr=>⟨_,es,p1,rfl,g2 w1 fz1 hf (fun i hi=>hb i (by simp[hi])) hr,.inr ⟨g,cap,cur,rfl,?_,h4,h5,h6,h7,rfl⟩⟩⟩
         rw[hb g (by simp),h3]
     |_=>simp[le]at hl
 | ptr a ih=>
   intro o o' x cs bs h hl
   cases o' with
   |dead=>exact dead h
   |z=>exact z h (le_z hl)
   |pr _ _=>cases o<;>simp[le]at hl;exact h.elim
   | own oa'=>
     cases o with
     | own oa=>
       simp only[le]at hl
       obtain⟨g,cur,e,ebs,rfl,h1,h2,rfl⟩:=h
       obtain⟨p1,r1,g1,g2⟩:=ih h2 hl
       refine⟨g::p1,r1,g1.cons _,fun w1 fz1 hf hb hr=>⟨g,cur,e,p1,rfl,?_,g2 w1 fz1 hf (fun i hi=>hb i (by simp[hi])) hr,rfl⟩⟩
       rw[hb g (by simp),h1]
     |_=>simp[le]at hl
 | fn f c ih=>
   intro o o' x cs bs h hl
   have hd':o'≠.dead→o≠.dead:=by rintro h1 rfl;exact h1 (le_dead hl)
   cases o' with
   |dead=>exact dead h
   | _=>
     cases o<;>first
      |(exact absurd rfl (hd' (by simp)))
      | (obtain⟨ccs,rfl,h1⟩:=h
         obtain⟨p1,r1,g1,g2⟩:=ih h1 hl
         exact⟨p1,r1,g1,fun w1 fz1 hf hb hr=>⟨ccs,rfl,g2 w1 fz1 hf hb hr⟩⟩)
 |unit=>intro o o' x cs bs h hl;obtain⟨rfl,rfl⟩:=h;exact⟨[],[],by simp,fun _ _ _ _ _=>⟨rfl,rfl⟩⟩
 | tok a b iha ihb=>
   intro o o' x cs bs h hl
   by_cases hd:o' = .dead
   · subst hd;exact dead h
   · have ho:o≠.dead:=by rintro rfl;exact hd (le_dead hl)
     refine⟨[],[],by rw[h.1];simp,fun w1 fz1 hf hb _=>?_⟩
     have h1:Rep w fz (.tok a b) o' x cs []:=⟨rfl,h.2.1,fun _=>h.2.2 ho⟩
     exact h1.stable hf (by simp)
 | md a ih=>
   intro o o' x cs bs h hl
   obtain⟨b,y⟩:=x
   cases b with
   |false=>exact⟨[],[],by rw[h.1];simp,fun _ _ _ _ _=>⟨rfl,h.2⟩⟩
   |true=>exact ih h hl
 | _=>
   intro o o' x cs bs h hl
   by_cases hd:o' = .dead
   · subst hd;exact dead h
   · have ho:o≠.dead:=by rintro rfl;exact hd (le_dead hl)
     obtain⟨rfl,h1,h2⟩:=h
     exact⟨[],[],by simp,fun _ _ _ _ _=>⟨rfl,h1,fun _=>h2 ho⟩⟩
theorem meet_le:∀ {a b o:O},meet a b=some o→le a o=true∧le b o=true:=by
 have base:∀ {a b:O},a.alive=true→b.alive=true→le a .z=true∧le b .z=true:=by
  intro a b ha hb
  constructor
  · cases a<;>simp_all [le,O.alive]
  · cases b<;>simp_all [le,O.alive]
 have last:∀ {a b o:O},meetZ a b=some o→le a o=true∧le b o=true:=by
  intro a b o h
  unfold meetZ at h
  split at h
  · rename_i hh;cases h
    simp only[Bool.and_eq_true]at hh
    exact base hh.1 hh.2
  · simp at h
 intro a
 induction a with
 |dead=>intro b o h;simp[meet]at h
 | z=>
   intro b o h
   cases b with
   |dead=>simp[meet]at h
   |_=>exact last (by simpa [meet]using h)
 | own a ih=>
   intro b o h
   cases b with
   |dead=>simp[meet]at h
   | own b=>
     simp only[meet,Option.map_eq_some_iff]at h
     obtain⟨o',h1,rfl⟩:=h
     simpa [le]using ih h1
   |_=>exact last (by simpa [meet]using h)
 | pr a b iha ihb=>
   intro c o h
   cases c with
   |dead=>simp[meet]at h
   | pr c d=>
     simp only[meet]at h
     split at h
     · rename_i x y h1 h2
       cases h
       have g1:=iha h1;have g2:=ihb h2
       have alive:∀ {o:O},le o .z=true→o.alive=true:=le_z
       have pr:le (.pr a b) (.pr x y)=true∧le (.pr c d) (.pr x y)=true:=by simp only[le,g1,g2,Bool.and_true,and_self]
       cases x<;>cases y<;>first
        |exact pr
        |(simp only[prz,le,O.alive,Bool.and_eq_true];exact⟨⟨alive g1.1,alive g2.1⟩,alive g1.2,alive g2.2⟩)
     · simp at h
   |_=>exact last (by simpa [meet]using h)
end Go.V
namespace Go.V
open Go
theorem blocks_box {r:Root} {q:RC}:blocks r q=(if r.box then[q.blk] else[])++q.bs:=by unfold blocks;cases r.box<;>simp
theorem oP_zz:∀ {p:List Step},oP .z p=some .z:=by
 intro p
 induction p with
 |nil=>rfl
 |cons q p ih=>cases q<;>simpa [oP]using ih
theorem le_refl':∀(o:O),le o o=true:=by
 intro o
 induction o with
 |z=>rfl
 |dead=>rfl
 |own a ih=>simpa [le]using ih
 |pr a b iha ihb=>simp[le,iha,ihb]
theorem le_frz:∀ {o:O},frzOk o=true→le o (frzO o)=true:=by
 intro o
 induction o with
 |z=>intro _;rfl
 |dead=>intro _;rfl
 |own a _=>intro h;simpa [frzO,le,O.alive,frzOk]using h
 | pr a b iha ihb=>
   intro h
   simp only[frzOk,Bool.and_eq_true]at h
   have g1:=iha h.1;have g2:=ihb h.2
   simp only[frzO]
   have pr:le (.pr a b) (.pr (frzO a) (frzO b))=true:=by simp only[le,g1,g2,Bool.and_self]
   cases ha:frzO a<;>cases hb:frzO b<;>first
    |(rw[ha,hb]at pr;exact pr)
    |(rw[ha]at g1;rw[hb]at g2;simp only[prz,le,O.alive,Bool.and_eq_true];exact⟨le_z g1,le_z g2⟩)
theorem dead_nil {w:World} {fz:Nat→Prop} {sh:Sh} {x:sh.den} {cs bs} (h:Rep w fz sh .dead x cs bs):bs=[]:=by
 induction sh with
 | md a ih=>
   obtain⟨b,y⟩:=x
   cases b with
   |false=>exact h.1
   |true=>exact ih h
 |_=>exact h.1
theorem frz_own {o o':O} (h:frzO o = .own o'):False:=by
 cases o with
 | pr a b=>
   simp only[frzO]at h
   generalize frzO a=x at h
   generalize frzO b=y at h
   cases x<;>cases y<;>simp[prz]at h
 |_=>simp[frzO]at h
theorem frz_nil {w:World} {fz:Nat→Prop}:∀ {sh:Sh} {o:O} {x:sh.den} {cs bs},Rep w fz sh (frzO o) x cs bs→bs=[]:=by
 have base:∀ {sh:Sh} {o:O} {x:sh.den} {cs bs},Rep w fz sh o x cs bs→o = .z∨o = .dead→bs=[]:=by
  rintro sh o x cs bs h (rfl|rfl)
  · exact h.z_nil
  · exact dead_nil h
 intro sh
 induction sh with
 | pair a b iha ihb=>
   intro o x cs bs h
   cases o with
   | pr oa ob=>
     obtain⟨c1,c2,b1,b2,_,rfl,h1,h2⟩:=Rep.przIff.mp (show Rep w fz (.pair a b) (prz (frzO oa) (frzO ob)) x cs bs from h)
     rw[iha h1,ihb h2];rfl
   |z=>exact base h (.inl rfl)
   |dead=>exact base h (.inr rfl)
   |own _=>exact base h (.inl rfl)
 |int k=>intro o x cs bs h;exact h.1
 |bool=>intro o x cs bs h;exact h.1
 |str=>intro o x cs bs h;exact h.1
 |unit=>intro o x cs bs h;exact h.1
 |tok a b _ _=>intro o x cs bs h;exact h.1
 | md a ih=>
   intro o x cs bs h
   obtain⟨b,y⟩:=x
   cases b with
   |false=>exact h.1
   |true=>exact ih h
 | fn f c ih=>
   intro o x cs bs h
   cases hf:frzO o with
   |dead=>exact base h (.inr hf)
   |z=>exact base h (.inl hf)
   |own o'=>exact(frz_own hf).elim
   | pr a b=>
     have h':=h
     rw[hf]at h'
     obtain⟨ccs,_,h2⟩:=h'
     rw[←hf]at h2
     exact ih h2
 | sl e a _=>
   intro o x cs bs h
   cases hf:frzO o with
   |dead=>exact base h (.inr hf)
   |z=>exact base h (.inl hf)
   |own o'=>exact(frz_own hf).elim
   |pr a b=>rw[hf]at h;exact h.elim
 | ptr a _=>
   intro o x cs bs h
   cases hf:frzO o with
   |dead=>exact base h (.inr hf)
   |z=>exact base h (.inl hf)
   |own o'=>exact(frz_own hf).elim
   |pr a b=>rw[hf]at h;exact h.elim
theorem frz_oP:∀ {p:List Step} {o:O},(∃ x,oP o p=some x)→∃ x,oP (frzO o) p=some x:=by
 intro p
 induction p with
 |nil=>intro o _;exact⟨frzO o,by cases frzO o<;>rfl⟩
 | cons q p ih=>
   intro o h
   cases o with
   |z=>exact⟨_,oP_zz⟩
   |own a=>exact⟨_,oP_zz⟩
   |dead=>obtain⟨x,hx⟩:=h;cases q<;>simp[oP]at hx
   | pr a b=>
     simp only[frzO]
     cases q with
     | f=>
       have:=ih (o:=a) h
       cases ha:frzO a<;>cases hb:frzO b<;>simp only[prz]<;>first|exact⟨_,oP_zz⟩|(rw[ha]at this;exact this)
     | s=>
       have:=ih (o:=b) h
       cases ha:frzO a<;>cases hb:frzO b<;>simp only[prz]<;>first|exact⟨_,oP_zz⟩|(rw[hb]at this;exact this)
     |i n=>obtain⟨x,hx⟩:=h;simp[oP]at hx
theorem le_frzAt:∀ {p:List Step} {o o':O},frzAt o p=some o'→le o o'=true:=by
 intro p
 induction p with
 |nil=>intro o o' h;cases o<;>simp[frzAt]at h
 | cons q p ih=>
   intro o o' h
   cases o with
   |z=>cases q<;>simp[frzAt]at h
   |dead=>cases q<;>simp[frzAt]at h
   | own a=>
     cases q<;>simp only[frzAt,reduceCtorEq]at h
     split at h
     · rename_i hf;cases h;exact le_frz hf
     · simp at h
   | pr a b=>
     have prl:∀ {x:O},le a x=true→x≠.z→le (.pr a b) (prz x b)=true:=by
      intro x hx hz
      have hb:=le_refl' b
      cases x<;>first|exact absurd rfl hz|(cases b<;>simp only[prz,le,hx,Bool.true_and]<;>exact hb)
     have prr:∀ {x:O},le b x=true→x≠.z→le (.pr a b) (prz a x)=true:=by
      intro x hx hz
      have ha:=le_refl' a
      cases x<;>first|exact absurd rfl hz|(cases a<;>simp only[prz,le,hx,Bool.and_true]<;>exact ha)
     have nz:∀ {p:List Step} {o o':O},frzAt o p=some o'→o'≠.z:=by
      intro p
      induction p with
      |nil=>intro o o' h;cases o<;>simp[frzAt]at h
      | cons q p ih=>
        intro o o' h
        cases o<;>cases q<;>simp only[frzAt,reduceCtorEq,Option.map_eq_some_iff]at h
        · split at h
          · cases h;simp
          · simp at h
        · obtain⟨y,hy,rfl⟩:=h;have:=ih hy;cases y<;>first|exact absurd rfl this|(rename_i b;cases b<;>simp[prz])
        · obtain⟨y,hy,rfl⟩:=h;have:=ih hy;cases y<;>first|exact absurd rfl this|(rename_i a _;cases a<;>simp[prz])
     cases q with
     |f=>simp only[frzAt,Option.map_eq_some_iff]at h;obtain⟨y,hy,rfl⟩:=h;exact prl (ih hy) (nz hy)
     |s=>simp only[frzAt,Option.map_eq_some_iff]at h;obtain⟨y,hy,rfl⟩:=h;exact prr (ih hy) (nz hy)
     |i n=>simp[frzAt]at h
theorem frzAt_oP:∀ {p:List Step} {o o':O},frzAt o p=some o'→∀ q,(∃ x,oP o q=some x)→∃ x,oP o' q=some x:=by
 intro p
 induction p with
 |nil=>intro o o' h;cases o<;>simp[frzAt]at h
 | cons st p ih=>
   intro o o' h q hq
   cases q with
   |nil=>exact⟨o',by cases o'<;>rfl⟩
   | cons t q=>
     cases o with
     |z=>cases st<;>simp[frzAt]at h
     |dead=>cases st<;>simp[frzAt]at h
     | own a=>
       cases st<;>simp only[frzAt,reduceCtorEq]at h
       split at h
       · cases h
         cases t with
         |i m=>exact frz_oP (o:=a) hq
         |f=>obtain⟨x,hx⟩:=hq;simp[oP]at hx
         |s=>obtain⟨x,hx⟩:=hq;simp[oP]at hx
       · simp at h
     | pr a b=>
       cases st with
       |i n=>simp[frzAt]at h
       | f=>
         simp only[frzAt,Option.map_eq_some_iff]at h
         obtain⟨y,hy,rfl⟩:=h
         cases t with
         |f=>have:=ih hy q hq;cases y<;>cases b<;>simp only[prz]<;>first|exact⟨_,oP_zz⟩|exact this
         | s => have hq':∃ x,oP b q=some x:=hq
                cases y<;>cases b<;>simp only[prz]<;>first|exact⟨_,oP_zz⟩|exact hq'
         |i m=>obtain⟨x,hx⟩:=hq;simp[oP]at hx
       | s=>
         simp only[frzAt,Option.map_eq_some_iff]at h
         obtain⟨y,hy,rfl⟩:=h
         cases t with
         |s=>have:=ih hy q hq;cases y<;>cases a<;>simp only[prz]<;>first|exact⟨_,oP_zz⟩|exact this
         | f => have hq':∃ x,oP a q=some x:=hq
                cases y<;>cases a<;>simp only[prz]<;>first|exact⟨_,oP_zz⟩|exact hq'
         |i m=>obtain⟨x,hx⟩:=hq;simp[oP]at hx
section
variable {P:Program} {C s:St} {X:Fr} {w0 w:World} {a:Act} {rc:Nat→RC}
theorem weak_root {ex:List Nat} (h:Rel rc ex C s X w0 a w) {k:Nat} {r:Root} {o':O} (hl:look k s.roots=some r) (hC:look k C.roots=none) (hle:le r.o o'=true) (hoP:∀ q,(∃ x,oP r.o q=some x)→∃ x,oP o' q=some x) :
  ∃ q:RC,q.cs=(rc k).cs∧q.blk=(rc k).blk∧Rel (setRc rc k q) ex C ⟨s.tmps,upd k ⟨r.box,r.inn,r.s,o',r.x⟩ s.roots⟩ X w0 a w∧
   (∀ b,b∈ex++allB (setRc rc k q) (upd k ⟨r.box,r.inn,r.s,o',r.x⟩ s.roots++C.roots)→b∈ex++allB rc (s.roots++C.roots)):=by
 have hr:getR C s k=some r:=by unfold getR;rw[hl]
 have hok:=h.root hr
 obtain⟨bw,rest,hp,hw⟩:=hok.1.weak hle
 have hmem:∀ b∈blocks r (rc k),b∈ex++allB rc (s.roots++C.roots):=fun b hb=>List.mem_append_right _ (mem_allB.mpr ⟨k,r,(mem_getR h.keys).mp hr,hb⟩)
 have hnb:=h.blocks_nodup hr
 have hsub:∀ b∈blocks ⟨r.box,r.inn,r.s,o',r.x⟩ ⟨(rc k).cs,bw,(rc k).blk⟩,b∈blocks r (rc k):=by
  intro b hb
  rw[blocks_box]at hb ⊢
  rcases List.mem_append.mp hb with hb|hb
  · exact List.mem_append_left _ hb
  · exact List.mem_append_right _ (hp.mem_iff.mpr (List.mem_append_left _ hb))
 have hnd2:(blocks ⟨r.box,r.inn,r.s,o',r.x⟩ ⟨(rc k).cs,bw,(rc k).blk⟩).Nodup∧∀ b∈rest,b∉blocks ⟨r.box,r.inn,r.s,o',r.x⟩ ⟨(rc k).cs,bw,(rc k).blk⟩:=by
  have hperm:(blocks r (rc k)).Perm (blocks ⟨r.box,r.inn,r.s,o',r.x⟩ ⟨(rc k).cs,bw,(rc k).blk⟩++rest):=by
   rw[blocks_box,blocks_box,List.append_assoc]
   exact List.Perm.append_left _ hp
  have:=hperm.nodup_iff.mp hnb
  rw[List.nodup_append]at this
  exact⟨this.1,fun b hb hm=>this.2.2 b hm b hb rfl⟩
 have hHS:∀ p,HS w w (getR C s) (getR C ⟨s.tmps,upd k ⟨r.box,r.inn,r.s,o',r.x⟩ s.roots⟩) rc (setRc rc k ⟨(rc k).cs,bw,(rc k).blk⟩) k p:=by
  intro p r1 hr1
  rw[getR_upd (ts:=s.tmps)]at hr1
  simp at hr1;subst hr1
  exact⟨r,hr,rfl,fun c e a q1 q2 _ q4=>⟨q1,hoP _ q2,by simpa [setRc]using q4⟩⟩
 have hBS:BS (getR C s) (getR C ⟨s.tmps,upd k ⟨r.box,r.inn,r.s,o',r.x⟩ s.roots⟩) rc (setRc rc k ⟨(rc k).cs,bw,(rc k).blk⟩) k:=by
  intro r1 hr1 hb1
  rw[getR_upd (ts:=s.tmps)]at hr1
  simp at hr1;subst hr1
  exact⟨r,hr,hb1,rfl,by simp[setRc]⟩
 have hrel:=Rel.setRoot (ls:=[]) (ex:=ex) (r:=⟨r.box,r.inn,r.s,o',r.x⟩) (q:=⟨(rc k).cs,bw,(rc k).blk⟩) (ts:=s.tmps) (w1:=w) (by simpa using h) (blocks r (rc k)) [] hC (fun hi=>⟨r,look_mem hl,hi,rfl,fun _=>rfl,fun _=>rfl⟩)
  (fun b hb=>.inr ⟨r,look_mem hl,hb⟩) (Nat.le_refl _) rfl rfl rfl (fun _ _ _=>rfl)
  (by simpa using hnd2.1) (by simp)
  (fun b hb=>⟨(h.bnd b (hmem b (hsub b hb))).1,.inl (hsub b hb)⟩)
  (fun fz1 hf1 hf2=>by
   refine⟨hw w fz1 (fun b hb=>⟨hf1 b (by simpa using hb),rfl⟩) (fun _ _=>rfl) fun b hb=>?_,hok.2⟩
   have hbb:b∈(rc k).bs:=hp.mem_iff.mpr (by simp[hb])
   exact hf2 b (by rw[blocks_box];simp[hbb]) (hnd2.2 b hb) (by simp))
  (List.Sublist.refl _)
  (fun t v _=>⟨fun p _=>hHS p,fun _=>hBS⟩)
 refine⟨⟨(rc k).cs,bw,(rc k).blk⟩,rfl,rfl,by simpa using hrel,?_⟩
 intro b hb
 rcases List.mem_append.mp hb with hb|hb
 · exact List.mem_append_left _ hb
 rcases mem_allB.mp hb with⟨j,u,hj,hb⟩
 by_cases hjk:j=k
 · subst hjk
   have hu:=(mem_getR (s:=⟨s.tmps,upd j ⟨r.box,r.inn,r.s,o',r.x⟩ s.roots⟩) hrel.keys).mpr hj
   rw[getR_upd (ts:=s.tmps)]at hu
   simp at hu;subst hu
   rw[show setRc rc j ⟨(rc j).cs,bw,(rc j).blk⟩ j=⟨(rc j).cs,bw,(rc j).blk⟩ by simp[setRc]]at hb
   exact hmem b (hsub b hb)
 · rw[show setRc rc k ⟨(rc k).cs,bw,(rc k).blk⟩ j=rc j by simp[setRc,hjk]]at hb
   refine List.mem_append_right _ (mem_allB.mpr ⟨j,u,?_,hb⟩)
   have:=(mem_getR (s:=⟨s.tmps,upd k ⟨r.box,r.inn,r.s,o',r.x⟩ s.roots⟩) hrel.keys).mpr hj
   rw[getR_upd (ts:=s.tmps)]at this
   simp only[hjk,if_false]at this
   exact(mem_getR h.keys).mp this
end
end Go.V
namespace Go.V
open Go
def VC0 (w:World) (fz:Nat→Prop) (R:Nat→Option Root) (rc:Nat→RC):Val→List Value→Prop
 |.t sh o x,cs=>Rep w fz sh o x cs []
 |.own k p,cs=>∀ r,R k=some r→InB r.s r.x p∧cellsP w r.s (rc k).cs p=some cs∧∃ e a,shP r.s p=some (.sl e a)
 |.pair a b,cs=>∃ c1 c2,cs=c1++c2∧VC0 w fz R rc a c1∧VC0 w fz R rc b c2
 |.baddr k p,cs=>∀ r,R k=some r→r.box=true→∃ off,locP r.s p=some off∧cs=[.pointer (some ⟨(rc k).blk,off,none⟩)]
 |.eaddr k p i fp,cs=>∀ r,R k=some r→∃ g n cap e a off,InB r.s r.x p∧cellsP w r.s (rc k).cs p=some [.slice (some ⟨g,0,none⟩) n cap]∧
  shP r.s p=some (.sl e a)∧i<n∧locP a fp=some off∧cs=[.pointer (some ⟨g,i * a.size+off,none⟩)]
 |.faddr sh x,cs=>Rep w fz (.ptr sh) .z x cs []
 |.sub k p lo hi,cs=>∀ r,R k=some r→∃ g n cap e a,InB r.s r.x p∧cellsP w r.s (rc k).cs p=some [.slice (some ⟨g,0,none⟩) n cap]∧
  shP r.s p=some (.sl e a)∧lo≤hi∧hi≤n∧cs=[.slice (if cap=lo then some ⟨g,0,none⟩ else some ⟨g,lo * a.size,none⟩) (hi - lo) (cap - lo)]
 |.clo f c,cs=>∃ ccs,cs=[.func (.func f) #[] (List.toArray ccs)]∧VC0 w fz R rc c ccs
 |.vbox v,cs=>∃ blk off cur e pre ccs post,cs=[.pointer (some ⟨blk,off,none⟩)]∧fz blk∧w.heap[blk]? = some (.cells cur e (0,0))∧cur.toList=pre++(ccs++post)∧pre.length=off∧VC0 w fz R rc v ccs
 |.nils,cs=>cs=[.slice none 0 0]
 |.undef,_=>True
 |.tup _ _,_=>False
 |.tnil,_=>False
theorem VCells.vc0 {w:World} {fz:Nat→Prop} {R:Nat→Option Root} {rc:Nat→RC}:∀ {v:Val} {cs},VCells w fz R rc v cs→VC0 w fz R rc v cs:=by
 intro v
 induction v with
 |own k p=>intro cs h r hr;obtain⟨h1,_,h2⟩:=h r hr;exact⟨h1,h2⟩
 |eaddr k p i fp=>intro cs h r hr;obtain⟨g,n,cap,e,a,off,h1,_,h2⟩:=h r hr;exact⟨g,n,cap,e,a,off,h1,h2⟩
 |sub k p lo hi=>intro cs h r hr;obtain⟨g,n,cap,e,a,h1,_,h2⟩:=h r hr;exact⟨g,n,cap,e,a,h1,h2⟩
 |pair a b iha ihb=>rintro cs ⟨c1,c2,rfl,h1,h2⟩;exact⟨c1,c2,rfl,iha h1,ihb h2⟩
 |clo f c ih=>rintro cs ⟨ccs,rfl,h⟩;exact⟨ccs,rfl,ih h⟩
 |vbox c ih=>rintro cs ⟨blk,off,cur,e,pre,ccs,post,rfl,h1,h2,h3,h4,h⟩;exact⟨blk,off,cur,e,pre,ccs,post,rfl,h1,h2,h3,h4,ih h⟩
 |_=>intro cs h;exact h
def TakeR (R R1:Nat→Option Root) (rc rc1:Nat→RC):Prop:=
 ∀ k r1,R1 k=some r1→∃ r,R k=some r∧r1=⟨r.box,r1.inn,r.s,r1.o,r.x⟩∧(rc1 k).cs=(rc k).cs∧(rc1 k).blk=(rc k).blk
theorem TakeR.refl (R:Nat→Option Root) (rc:Nat→RC):TakeR R R rc rc:=fun _ r hr=>⟨r,hr,rfl,rfl,rfl⟩
theorem TakeR.trans {R R1 R2:Nat→Option Root} {rc rc1 rc2:Nat→RC} (h:TakeR R R1 rc rc1) (g:TakeR R1 R2 rc1 rc2):TakeR R R2 rc rc2:=by
 intro k r2 hr2
 obtain⟨r1,h1,h2,h3,h4⟩:=g k r2 hr2
 obtain⟨r,k1,k2,k3,k4⟩:=h k r1 h1
 refine⟨r,k1,?_,h3.trans k3,h4.trans k4⟩
 rw[k2]at h2
 exact h2
theorem VC0.take {w:World} {fz fz1:Nat→Prop} {R R1:Nat→Option Root} {rc rc1:Nat→RC} (hf:∀ b,fz b→fz1 b) (ht:TakeR R R1 rc rc1) :
  ∀ {v:Val} {cs},VC0 w fz R rc v cs→VC0 w fz1 R1 rc1 v cs:=by
 intro v
 induction v with
 |t sh o x=>intro cs h;exact Rep.stable (fun b hb=>⟨hf b hb,rfl⟩) h (by simp)
 |faddr sh x=>intro cs h;exact Rep.stable (fun b hb=>⟨hf b hb,rfl⟩) h (by simp)
 | own k p=>
   intro cs h r1 hr1
   obtain⟨r,h1,h2,h3,h4⟩:=ht k r1 hr1
   have:=h r h1
   rw[h2,h3];exact this
 | eaddr k p i fp=>
   intro cs h r1 hr1
   obtain⟨r,h1,h2,h3,h4⟩:=ht k r1 hr1
   have:=h r h1
   rw[h2,h3];exact this
 | sub k p lo hi=>
   intro cs h r1 hr1
   obtain⟨r,h1,h2,h3,h4⟩:=ht k r1 hr1
   have:=h r h1
   rw[h2,h3];exact this
 | baddr k p=>
   intro cs h r1 hr1 hb
   obtain⟨r,h1,h2,h3,h4⟩:=ht k r1 hr1
   have hb':r.box=true:=by rw[h2]at hb;exact hb
   obtain⟨off,g1,g2⟩:=h r h1 hb'
   exact⟨off,by rw[h2];exact g1,by rw[h4];exact g2⟩
 |pair a b iha ihb=>rintro cs ⟨c1,c2,rfl,h1,h2⟩;exact⟨c1,c2,rfl,iha h1,ihb h2⟩
 |clo f c ih=>rintro cs ⟨ccs,rfl,h⟩;exact⟨ccs,rfl,ih h⟩
 |vbox c ih=>rintro cs ⟨blk,off,cur,e,pre,ccs,post,rfl,h1,h2,h3,h4,h⟩;exact⟨blk,off,cur,e,pre,ccs,post,rfl,hf blk h1,h2,h3,h4,ih h⟩
 |nils=>intro cs h;exact h
 |undef=>intro cs h;exact h
 |tup _ _ _ _=>intro cs h;exact h
 |tnil=>intro cs h;exact h
theorem setP_get:∀ {p:List Step} {s:Sh} {x:s.den} {s':Sh} {x':s'.den},inner p=false→getP s x p=some ⟨s',x'⟩→setP s x p ⟨s',x'⟩=some x:=by
 intro p
 induction p with
 | nil=>
   intro s x s' x' _ hg
   have hg':(⟨s,x⟩:TV)=⟨s',x'⟩:=by cases s<;>simpa [getP]using hg
   cases hg'
   cases s<;>simp[setP,castD_self]
 | cons q p ih=>
   intro s x s' x' hn hg
   cases q with
   | f => cases s<;>try (simp[getP]at hg;done)
          simp only[setP,ih (by simpa [inner]using hn) hg];rfl
   | s => cases s<;>try (simp[getP]at hg;done)
          simp only[setP,ih (by simpa [inner]using hn) hg];rfl
   |i n=>simp[inner]at hn
theorem repl_self {off:Nat} {c cs:List Value} (h:(cs.drop off).take c.length=c) (hl:off+c.length≤cs.length):repl off c cs=cs:=by
 unfold repl
 conv=>rhs;rw[←List.take_append_drop off cs,←List.take_append_drop c.length (cs.drop off)]
 rw[h,List.drop_drop,List.append_assoc]
theorem getR_s {C s:St} {k:Nat} {r:Root} (hC:look k C.roots=none) (h:getR C s k=some r):(k,r)∈s.roots:=by
 unfold getR at h
 split at h
 · rename_i u hu;cases h;exact look_mem hu
 · rw[hC]at h;simp at h
theorem takeOwn_ok {C:St} {X:Fr} {w0:World} {a:Act} {w:World} {key:Nat} {p:List Step} {s s1:St} {u:OV} {cs:List Value} {rc:Nat→RC} {ex:List Nat}
  (h:Rel rc ex C s X w0 a w) (ht:takeOwn C s key p=some (u,s1)) (hv:VC0 w (fzOf X w (ex++allB rc (s.roots++C.roots))) (getR C s) rc (.own key p) cs) :
  ∃ rc1 ls,Rel rc1 (ls++ex) C s1 X w0 a w∧Rep w (fzOf X w (ls++ex++allB rc1 (s1.roots++C.roots))) u.s u.o u.x cs ls∧
   TakeR (getR C s) (getR C s1) rc rc1∧(∀ b,b∈ls++ex++allB rc1 (s1.roots++C.roots)→b∈ex++allB rc (s.roots++C.roots)):=by
 simp only[takeOwn]at ht
 split at ht
 · rename_i r hr
   split at ht
   · rename_i o sh x ho hg
     obtain⟨hin,hc,_⟩:=hv r hr
     have hok:=h.root hr
     split at ht
     · simp at ht
     · simp only[Option.some.injEq,Prod.mk.injEq]at ht
       obtain⟨rfl,rfl⟩:=ht
       obtain⟨cs',bs',g1,g2,g3⟩:=hok.1.get hg ho hin
       rw[hc]at g1;cases g1
       have:=g2.z_nil;subst this
       exact⟨rc,[],h,g2,.refl _ _,fun b hb=>hb⟩
     · rename_i hz hdd
       split at ht
       · rename_i hin2
         split at ht
         rotate_left
         · simp at ht
         rename_i o' hs2
         split at ht
         · rename_i s' hre
           simp only[Option.some.injEq,Prod.mk.injEq]at ht
           obtain⟨rfl,rfl⟩:=ht
           unfold reRoot at hre
           split at hre
           · rename_i hC hA
             cases hre
             obtain⟨off,cs',bs',rest,e1,e2,e3,e4,e5,e6,e7⟩:=hok.1.setField hin2 hg ho
             rw[hc]at e2;cases e2
             have hl:=e5.len
             have hnb:=h.blocks_nodup hr
             have hqn:(rc key).bs.Nodup:=by rw[blocks_box]at hnb;exact(List.nodup_append.mp hnb).2.1
             obtain⟨x3,bsn,k1,k2,k3⟩:=e7 w (fzOf X w (ex++allB rc (s.roots++C.roots))) .dead x cs [] o' (fun b hb=>⟨hb,rfl⟩) (fun b hb=>rfl) (Rep.dead x hl e5.one) hs2
             rw[setP_get hin2 hg]at k1
             cases k1
             rw[repl_self (by rw[hl];exact e4) (by rw[hl];exact e3)]at k2
             have hbl:(bs'++blocks ⟨r.box,r.box&&r.inn,r.s,o',r.x⟩ ⟨(rc key).cs,bsn,(rc key).blk⟩).Perm (blocks r (rc key)):=by
              rw[blocks_box,blocks_box]
              simp only
              refine((k3.append_left _).append_left bs').trans ?_
              refine .trans ?_ (e6.symm.append_left _)
              simp only[List.nil_append]
              rw[←List.append_assoc,←List.append_assoc]
              exact List.Perm.append_right _ List.perm_append_comm
             have hrel:=Rel.setRoot (ls:=[]) (ex:=ex) (r:=⟨r.box,r.box&&r.inn,r.s,o',r.x⟩) (q:=⟨(rc key).cs,bsn,(rc key).blk⟩) (ts:=killT false key s.tmps) (w1:=w)
              (by simpa using h) (blocks r (rc key)) bs' hC (fun hi=>by simp at hi;exact⟨r,getR_s hC hr,hi.2,rfl,fun _=>rfl,fun _=>rfl⟩) (fun b hb=>.inr ⟨r,getR_s hC hr,hb⟩) (Nat.le_refl _) rfl rfl rfl (fun _ _ _=>rfl)
              (hbl.nodup_iff.mpr hnb) (fun b hb=>hbl.mem_iff.mp (by simp[hb]))
              (fun b hb=>⟨(h.bnd b (List.mem_append_right _ (mem_allB.mpr ⟨key,r,(mem_getR h.keys).mp hr,hbl.mem_iff.mp (by simp[hb])⟩))).1,.inl (hbl.mem_iff.mp (by simp[hb]))⟩)
              (fun fz1 hz1 _=>⟨k2.stable (fun b hb=>⟨hz1 b (by simpa using hb),rfl⟩) fun _ _=>rfl,hok.2⟩)
              (killT_sub _ _ _)
              (fun t v htv=>by
               have hrf:refs false key v=false:=by
                rcases List.mem_append.mp htv with h'|h'
                · exact(killT_mem h').2
                · exact anyRef_false hA h'
               refine⟨fun p hp=>by rw[refsAt_refs hp]at hrf;simp at hrf,fun _ r1 hr1 hb1=>?_⟩
               rw[getR_upd (ts:=s.tmps)]at hr1
               simp at hr1
               subst hr1
               exact⟨r,hr,hb1,rfl,by simp[setRc]⟩)
             have hset:∀ b,b∈bs'++ex++allB (setRc rc key ⟨(rc key).cs,bsn,(rc key).blk⟩) (upd key ⟨r.box,r.box&&r.inn,r.s,o',r.x⟩ s.roots++C.roots)→
               b∈ex++allB rc (s.roots++C.roots):=by
              intro b hb
              have hbm:∀ b∈blocks r (rc key),b∈ex++allB rc (s.roots++C.roots):=fun b hb=>List.mem_append_right _ (mem_allB.mpr ⟨key,r,(mem_getR h.keys).mp hr,hb⟩)
              simp only[List.mem_append]at hb
              rcases hb with (hb|hb)|hb
              · exact hbm b (hbl.mem_iff.mp (by simp[hb]))
              · simp[hb]
              · rcases mem_allB.mp hb with⟨j,u,hj,hb⟩
                by_cases hjk:j=key
                · subst hjk
                  have hu:u=⟨r.box,r.box&&r.inn,r.s,o',r.x⟩:=by
                   have:=(mem_getR (s:=⟨killT false j s.tmps,upd j ⟨r.box,r.box&&r.inn,r.s,o',r.x⟩ s.roots⟩) hrel.keys).mpr hj
                   rw[getR_upd (ts:=s.tmps)]at this
                   simpa using this.symm
                  subst hu
                  rw[show setRc rc j ⟨(rc j).cs,bsn,(rc j).blk⟩ j=⟨(rc j).cs,bsn,(rc j).blk⟩ by simp[setRc]]at hb
                  exact hbm b (hbl.mem_iff.mp (by simp[hb]))
                · rw[show setRc rc key ⟨(rc key).cs,bsn,(rc key).blk⟩ j=rc j by simp[setRc,hjk]]at hb
                  refine List.mem_append_right _ (mem_allB.mpr ⟨j,u,?_,hb⟩)
                  have:=(mem_getR (s:=⟨killT false key s.tmps,upd key ⟨r.box,r.box&&r.inn,r.s,o',r.x⟩ s.roots⟩) hrel.keys).mpr hj
                  rw[getR_upd (ts:=s.tmps)]at this
                  simp only[hjk,if_false]at this
                  exact(mem_getR h.keys).mp this
             refine⟨_,bs',hrel,?_,?_,hset⟩
             · exact e5.stable (fun b hb=>⟨⟨hb.1,fun hm=>hb.2 (hset b hm),hb.3⟩,rfl⟩) fun _ _=>rfl
             · intro j r1 hr1
               rw[getR_upd (ts:=s.tmps)]at hr1
               by_cases hjk:j=key
               · subst hjk
                 simp at hr1
                 subst hr1
                 exact⟨r,hr,rfl,by simp[setRc],by simp[setRc]⟩
               · simp only[hjk,if_false]at hr1
                 exact⟨r1,hr1,rfl,by simp[setRc,hjk],by simp[setRc,hjk]⟩
           · simp at hre
         · simp at ht
       · split at ht
         · rename_i o' r' hfa hlk hC
           split at ht
           · rename_i hoz
             simp only[Option.some.injEq,Prod.mk.injEq]at ht
             obtain⟨rfl,rfl⟩:=ht
             have hrr:r'=r:=by
              have:getR C s key=some r':=by unfold getR;rw[hlk]
              rw[hr]at this;exact(Option.some.inj this).symm
             subst hrr
             obtain⟨q,q1,q2,q3,q4⟩:=weak_root h hlk hC (le_frzAt hfa) (frzAt_oP hfa)
             have hR1:getR C ⟨s.tmps,upd key ⟨r'.box,r'.inn,r'.s,o',r'.x⟩ s.roots⟩ key=some ⟨r'.box,r'.inn,r'.s,o',r'.x⟩:=by rw[getR_upd (ts:=s.tmps)];simp
             have hok1:=q3.root hR1
             obtain⟨cs',bs',g1,g2,g3⟩:=hok1.1.get hg hoz hin
             have hcs:(setRc rc key q key).cs=(rc key).cs:=by simp[setRc,q1]
             rw[hcs,hc]at g1;cases g1
             have:=g2.z_nil;subst this
             refine⟨_,[],q3,g2,?_,q4⟩
             intro j r1 hr1
             rw[getR_upd (ts:=s.tmps)]at hr1
             by_cases hjk:j=key
             · subst hjk
               simp at hr1
               subst hr1
               exact⟨r',hr,rfl,by simp[setRc,q1],by simp[setRc,q2]⟩
             · simp only[hjk,if_false]at hr1
               exact⟨r1,hr1,rfl,by simp[setRc,hjk],by simp[setRc,hjk]⟩
           · simp at ht
         · simp at ht
   · simp at ht
 · simp at ht
theorem setO_zz:∀ {p:List Step} {y:O},setO .z p .z=some y→y = .z:=by
 intro p
 induction p with
 |nil=>intro y h;simpa [setO]using h.symm
 | cons st p ih=>
   intro y h
   cases st<;>simp only[setO,reduceCtorEq,Option.map_eq_some_iff]at h
   · obtain⟨u,hu,rfl⟩:=h;rw[ih hu];rfl
   · obtain⟨u,hu,rfl⟩:=h;rw[ih hu];rfl
theorem setO_keeps:∀ {p:List Step} {o o':O},inner p=false→setO o p .z=some o'→∀ q,(∃ x,oP o q=some x)→∃ x,oP o' q=some x:=by
 intro p
 induction p with
 | nil=>
   intro o o' _ h q _
   have:o' = .z:=by cases o<;>simp only[setO,Option.some.injEq]at h<;>exact h.symm
   subst this
   exact⟨_,oP_zz⟩
 | cons st p ih=>
   intro o o' hi h q hq
   cases q with
   |nil=>exact⟨o',by cases o'<;>rfl⟩
   | cons t q=>
     cases st with
     |i m=>simp[inner]at hi
     | f=>
       have hi:inner p=false:=by simpa [inner]using hi
       cases o<;>simp only[setO,reduceCtorEq,Option.map_eq_some_iff]at h
       · obtain⟨y,hy,rfl⟩:=h
         rw[setO_zz hy]
         exact⟨_,oP_zz⟩
       · rename_i a b
         obtain⟨y,hy,rfl⟩:=h
         cases t with
         | f=>
           have:=ih hi hy q hq
           obtain⟨x,hx⟩:=this
           cases y<;>cases b<;>simp only[prz]<;>first|exact⟨_,oP_zz⟩|exact⟨x,hx⟩
         | s=>
           have hq':∃ x,oP b q=some x:=hq
           obtain⟨x,hx⟩:=hq'
           cases y<;>cases b<;>simp only[prz]<;>first|exact⟨_,oP_zz⟩|exact⟨x,hx⟩
         |i m=>obtain⟨x,hx⟩:=hq;simp[oP]at hx
     | s=>
       have hi:inner p=false:=by simpa [inner]using hi
       cases o<;>simp only[setO,reduceCtorEq,Option.map_eq_some_iff]at h
       · obtain⟨y,hy,rfl⟩:=h
         rw[setO_zz hy]
         exact⟨_,oP_zz⟩
       · rename_i a b
         obtain⟨y,hy,rfl⟩:=h
         cases t with
         | s=>
           have:=ih hi hy q hq
           obtain⟨x,hx⟩:=this
           cases y<;>cases a<;>simp only[prz]<;>first|exact⟨_,oP_zz⟩|exact⟨x,hx⟩
         | f=>
           have hq':∃ x,oP a q=some x:=hq
           obtain⟨x,hx⟩:=hq'
           cases y<;>cases a<;>simp only[prz]<;>first|exact⟨_,oP_zz⟩|exact⟨x,hx⟩
         |i m=>obtain⟨x,hx⟩:=hq;simp[oP]at hx
theorem own_prefix {w:World} {fz:Nat→Prop} {e:TypeId} {sa:Sh} {x:List sa.den} {g n cap hi:Nat} {ls:List Nat} (h:Rep w fz (.sl e sa) (.own .z) x [.slice (some ⟨g,0,none⟩) n cap] ls) (hh:hi≤n) :
  Rep w fz (.sl e sa) (.own .z) (List.take hi x) [.slice (some ⟨g,0,none⟩) hi cap] ls:=by
 obtain⟨v,es,ebs,e1,h1,h2⟩:=h
 rcases h2 with⟨rfl,_,_⟩|⟨g',cap',cur,rfl,h3,h4,h5,h6,h7,rfl⟩
 · simp at e1
 · simp only[List.cons.injEq,Value.slice.injEq,Option.some.injEq,Addr.mk.injEq,and_true]at e1
   obtain⟨rfl,rfl,rfl⟩:=e1
   have hz:ebs=[]:=by
    have:∀ {l:List sa.den} {es bs},RepL (Rep w fz sa .z) l es bs→bs=[]:=by
     intro l
     induction l with
     |nil=>rintro es bs ⟨_,rfl⟩;rfl
     | cons y l ih=>
       rintro es bs ⟨c1,c2,b1,b2,_,rfl,q1,q2⟩
       rw[q1.z_nil,ih q2];rfl
    exact this h1
   subst hz
   have hlen:=h1.len fun _ _ _ hr=>hr.len
   have ht:(List.take hi x).length=hi:=by rw[List.length_take];exact Nat.min_eq_left hh
   have hcut:RepL (Rep w fz sa .z) (List.take hi x) (es.take (hi * sa.size)) []:=by
    have:∀(l:List sa.den) (es:List Value) (m:Nat),RepL (Rep w fz sa .z) l es []→RepL (Rep w fz sa .z) (l.take m) (es.take (m * sa.size)) []:=by
     intro l
     induction l with
     |nil=>rintro es m ⟨rfl,_⟩;simp[RepL]
     | cons y l ih=>
       rintro es m ⟨c1,c2,b1,b2,rfl,hb,q1,q2⟩
       obtain⟨rfl,rfl⟩:=List.append_eq_nil_iff.mp hb.symm
       cases m with
       |zero=>simp[RepL]
       | succ m=>
         have hl:=q1.len
         rw[show(m+1) * sa.size=c1.length+m * sa.size by rw[hl,Nat.add_mul];omega,List.take_length_add_append]
         exact⟨c1,_,[],[],rfl,rfl,q1,ih _ m q2⟩
    exact this _ _ _ h1
   refine⟨_,es.take (hi * sa.size),[],rfl,hcut,.inr ⟨g,cap,cur,by rw[ht],h3,by rw[ht];omega,h5,h6,?_,rfl⟩⟩
   rw[ht,←h7,List.take_take,Nat.min_eq_left (Nat.mul_le_mul_right _ hh)]
theorem CellsAt.sub {w:World} {b off:Nat} {es:List Value} (h:CellsAt w b off es) {o n:Nat} (hn:o+n≤es.length):CellsAt w b (off+o) ((es.drop o).take n):=by
 obtain⟨cur,e,fr,h1,h2,h3⟩:=h
 refine⟨cur,e,fr,h1,by simp;omega,?_⟩
 simp only[List.length_take,List.length_drop,Nat.min_eq_left (show n≤es.length - o by omega)]
 rw[←h3,List.drop_take,List.take_take,List.drop_drop,Nat.min_eq_left (by rw[h3]at *;omega)]
theorem RepL.cut {α:Type} {R:α→List Value→List Nat→Prop} {k:Nat} {l:List α}:∀ {cs n m},RepL R l cs []→(∀ x c b,R x c b→c.length=k)→
  n≤m→m≤l.length→RepL R ((l.take m).drop n) ((cs.drop (n * k)).take ((m - n) * k)) []:=by
 induction l with
 |nil=>rintro cs n m ⟨rfl,_⟩ _ h1 h2;simp at h2;subst h2;simp at h1;subst h1;exact⟨by simp,rfl⟩
 | cons x l ih=>
   rintro cs n m ⟨c1,c2,b1,b2,rfl,hb,h1,h2⟩ H hn hm
   have hb':=List.append_eq_nil_iff.mp hb.symm
   obtain⟨rfl,rfl⟩:=hb'
   have hl:=H _ _ _ h1
   cases m with
   | zero => obtain rfl:n=0:=by omega
             exact⟨by simp,rfl⟩
   | succ m=>
     cases n with
     | zero=>
       have:=ih (n:=0) (m:=m) h2 H (by omega) (by simpa using hm)
       simp only[List.take_succ_cons,List.drop_zero,Nat.zero_mul,Nat.sub_zero]at this ⊢
       refine⟨c1,_,[],[],?_,rfl,h1,this⟩
       rw[show(m+1) * k=c1.length+m * k by rw[hl,Nat.add_mul];omega,List.take_length_add_append]
     | succ n=>
       have:=ih (n:=n) (m:=m) h2 H (by omega) (by simpa using hm)
       simp only[List.take_succ_cons,List.drop_succ_cons]
       have e1:(n+1) * k=c1.length+n * k:=by rw[hl,Nat.add_mul];omega
       rw[e1,List.drop_length_add_append,show m+1 - (n+1)=m - n by omega]
       exact this
theorem z_cut {w:World} {fz:Nat→Prop} {e:TypeId} {sa:Sh} {x:List sa.den} {g n cap lo hi:Nat} (h:Rep w fz (.sl e sa) .z x [.slice (some ⟨g,0,none⟩) n cap] []) (h1:lo≤hi) (h2:hi≤n) :
  Rep w fz (.sl e sa) .z (List.take (hi - lo) (List.drop lo x)) [.slice (if cap=lo then some ⟨g,0,none⟩ else some ⟨g,lo * sa.size,none⟩) (hi - lo) (cap - lo)] []:=by
 obtain⟨A,cap',es,e1,_,k1,k2,k3,k4⟩:=h
 simp only[List.cons.injEq,Value.slice.injEq,and_true]at e1
 obtain⟨rfl,rfl,rfl⟩:=e1
 have hlen:=k3.len fun _ _ _ hr=>hr.len
 have hys:(List.take (hi - lo) (List.drop lo x)).length=hi - lo:=by rw[List.length_take,List.length_drop];omega
 have hcut:=k3.cut (k:=sa.size) (n:=lo) (m:=hi) (fun _ _ _ hr=>hr.len) h1 h2
 rw[List.drop_take]at hcut
 refine⟨_,cap - lo,_,by rw[hys],rfl,by rw[hys];omega,by omega,hcut,?_⟩
 by_cases hlt:lo<hi
 · right
   have hne:¬ cap=lo:=by omega
   rcases k4 with rfl|⟨b,off,hA,hz,hcc⟩
   · simp at h2;omega
   · simp only[Option.some.injEq,Addr.mk.injEq]at hA
     obtain⟨rfl,rfl,_⟩:=hA
     refine⟨g,lo * sa.size,by rw[if_neg hne],hz,?_⟩
     have hk:=Nat.mul_le_mul_right sa.size h2
     have hk3:lo * sa.size+(hi - lo) * sa.size=hi * sa.size:=by rw[←Nat.add_mul];congr 1;omega
     have:=hcc.sub (o:=lo * sa.size) (n:=(hi - lo) * sa.size) (by rw[hlen];omega)
     simpa using this
 · left;exact List.eq_nil_of_length_eq_zero (by rw[hys];omega)
theorem getP_shP:∀ {p:List Step} {s:Sh} {x:s.den} {s':Sh} {x':s'.den},getP s x p=some ⟨s',x'⟩→shP s p=some s':=by
 intro p
 induction p with
 | nil => intro s x s' x' h;have:(⟨s,x⟩:TV)=⟨s',x'⟩:=by cases s<;>simpa [getP]using h
          cases this;cases s<;>rfl
 | cons q p ih=>
   intro s x s' x' h
   cases q<;>cases s<;>first|(simp[getP]at h;done)|(simp only[shP];exact ih h)
theorem takeV_ok {C:St} {X:Fr} {w0:World} {a:Act} {w:World}:∀(v:Val) {s s1:St} {u:OV} {cs:List Value} {rc:Nat→RC} {ex:List Nat},
  Rel rc ex C s X w0 a w→takeV C s v=some (u,s1)→VC0 w (fzOf X w (ex++allB rc (s.roots++C.roots))) (getR C s) rc v cs→
  ∃ rc1 ls,Rel rc1 (ls++ex) C s1 X w0 a w∧Rep w (fzOf X w (ls++ex++allB rc1 (s1.roots++C.roots))) u.s u.o u.x cs ls∧
   TakeR (getR C s) (getR C s1) rc rc1∧(∀ b,b∈ls++ex++allB rc1 (s1.roots++C.roots)→b∈ex++allB rc (s.roots++C.roots)):=by
 intro v
 induction v with
 | t sh o x=>
   intro s s1 u cs rc ex h ht hv
   simp only[takeV,Option.some.injEq,Prod.mk.injEq]at ht
   obtain⟨rfl,rfl⟩:=ht
   exact⟨rc,[],h,hv,.refl _ _,fun b hb=>hb⟩
 | own key p=>
   intro s s1 u cs rc ex h ht hv
   exact takeOwn_ok h ht hv
 | sub key p lo hi=>
   intro s s1 u cs rc ex h ht hv
   cases lo with
   | succ lo=>
     simp only[takeV]at ht
     split at ht
     case h_2=>simp at ht
     rename_i r hr
     split at ht
     case h_2=>simp at ht
     rename_i e sa x o' ho hg hs2
     split at ht
     case h_2=>simp at ht
     rename_i hin2 hle hoz
     split at ht
     case h_2=>simp at ht
     rename_i r' hlk hC
     simp only[Option.some.injEq,Prod.mk.injEq]at ht
     obtain⟨rfl,rfl⟩:=ht
     have hrr:r'=r:=by
      have:getR C s key=some r':=by unfold getR;rw[hlk]
      rw[hr]at this;exact(Option.some.inj this).symm
     subst hrr
     obtain⟨g,n,cap,e',a',q1,q2,q3,q4,q5,rfl⟩:=hv r' hr
     obtain⟨q,w1,w2,w3,w4⟩:=weak_root h hlk hC hle (setO_keeps hin2 hs2)
     have hR1:getR C ⟨s.tmps,upd key ⟨r'.box,r'.inn,r'.s,o',r'.x⟩ s.roots⟩ key=some ⟨r'.box,r'.inn,r'.s,o',r'.x⟩:=by rw[getR_upd (ts:=s.tmps)];simp
     have hok1:=w3.root hR1
     obtain⟨cs',bs',g1,g2,g3⟩:=hok1.1.get hg hoz q1
     have hcs:(setRc rc key q key).cs=(rc key).cs:=by simp[setRc,w1]
     rw[hcs,q2]at g1;cases g1
     have:=g2.z_nil;subst this
     have hsh:some (Sh.sl e sa)=some (Sh.sl e' a'):=(getP_shP hg).symm.trans q3
     cases hsh
     refine⟨_,[],w3,z_cut g2 q4 q5,?_,w4⟩
     intro j r1 hr1
     rw[getR_upd (ts:=s.tmps)]at hr1
     by_cases hjk:j=key
     · subst hjk
       simp at hr1
       subst hr1
       exact⟨r',hr,rfl,by simp[setRc,w1],by simp[setRc,w2]⟩
     · simp only[hjk,if_false]at hr1
       exact⟨r1,hr1,rfl,by simp[setRc,hjk],by simp[setRc,hjk]⟩
   | zero=>
     simp only[takeV]at ht
     split at ht
     · rename_i e sa x s' hto
       simp only[Option.some.injEq,Prod.mk.injEq]at ht
       obtain⟨rfl,rfl⟩:=ht
       have hroot:∃ r,getR C s key=some r:=by
        unfold takeOwn at hto
        split at hto
        · rename_i r hr;exact⟨r,hr⟩
        · simp at hto
       obtain⟨r,hr⟩:=hroot
       obtain⟨g,n,cap,e',a',q1,q2,q3,q4,q5,rfl⟩:=hv r hr
       obtain⟨rc1,ls,k1,k2,k3,k4⟩:=takeOwn_ok (cs:=[.slice (some ⟨g,0,none⟩) n cap]) h hto (fun r' hr'=>by rw[hr]at hr';cases hr';exact⟨q1,q2,e',a',q3⟩)
       refine⟨rc1,ls,k1,?_,k3,k4⟩
       have:=own_prefix k2 q5
       simpa using this
     · simp at ht
 | pair a b iha ihb=>
   intro s s1 u cs rc ex h ht hv
   obtain⟨c1,c2,rfl,h1,h2⟩:=hv
   simp only[takeV]at ht
   split at ht
   · rename_i sa oa xa s' hta
     split at ht
     · rename_i sb ob xb s'' htb
       simp only[Option.some.injEq,Prod.mk.injEq]at ht
       obtain⟨rfl,rfl⟩:=ht
       obtain⟨rc1,l1,g1,g2,g3,g4⟩:=iha h hta h1
       have h2':=h2.take (fz1:=fzOf X w (l1++ex++allB rc1 (s'.roots++C.roots))) (fun b hb=>⟨hb.1,fun hm=>hb.2 (g4 b hm),hb.3⟩) g3
       obtain⟨rc2,l2,k1,k2,k3,k4⟩:=ihb g1 htb h2'
       refine⟨rc2,l1++l2,?_,?_,g3.trans k3,?_⟩
       · exact k1.exPerm (by rw[←List.append_assoc];exact List.Perm.append_right _ List.perm_append_comm)
       · have hsub:∀ b,b∈l1++l2++ex++allB rc2 (s''.roots++C.roots)→b∈l1++ex++allB rc1 (s'.roots++C.roots):=by
          intro b hb
          have:b∈l2++(l1++ex)++allB rc2 (s''.roots++C.roots):=by simp at hb ⊢;rcases hb with h|h|h|h<;>simp[h]
          exact k4 b this
         refine Rep.przIff.mpr ⟨c1,c2,l1,l2,rfl,rfl,g2.stable (fun b hb=>⟨⟨hb.1,fun hm=>hb.2 (hsub b hm),hb.3⟩,rfl⟩) fun _ _=>rfl,
          k2.stable (fun b hb=>⟨⟨hb.1,fun hm=>hb.2 ?_,hb.3⟩,rfl⟩) fun _ _=>rfl⟩
         simp at hm ⊢;rcases hm with h|h|h|h<;>simp[h]
       · intro b hb
         have:b∈l2++(l1++ex)++allB rc2 (s''.roots++C.roots):=by simp at hb ⊢;rcases hb with h|h|h|h<;>simp[h]
         exact g4 b (k4 b this)
     · simp at ht
   · simp at ht
 | baddr key p=>
   intro s s1 u cs rc ex h ht hv
   cases p with
   |cons _ _=>simp[takeV]at ht
   | nil=>
     simp only[takeV]at ht
     split at ht
     · rename_i r hr
       split at ht
       · rename_i hbox hC hA
         simp only[Option.some.injEq,Prod.mk.injEq]at ht
         obtain⟨rfl,rfl⟩:=ht
         obtain⟨off,hl,rfl⟩:=hv r hr hbox
         have:off=0:=by cases hs:r.s<;>simp[hs,locP]at hl<;>exact hl.symm
         subst this
         obtain⟨h1,h2,h3⟩:=h.dropRoot hr hC hA
         have hok:=h.root hr
         refine⟨rc,_,h1,?_,?_,fun b hb=>(h2 b).mp hb⟩
         · obtain⟨cur,e,g1,g2⟩:=hok.2 hbox
           refine⟨(rc key).blk,cur,e,(rc key).bs,rfl,g1,?_,by simp[blocks,hbox]⟩
           rw[g2]
           exact hok.1.stable (fun b hb=>⟨⟨hb.1,fun hm=>hb.2 ((h2 b).mp hm),hb.3⟩,rfl⟩) fun _ _=>rfl
         · intro j r1 hr1
           by_cases hjk:j=key
           · subst hjk;rw[h3]at hr1;simp at hr1
           · have hR:getR C ⟨killT true key s.tmps,del key s.roots⟩ j=getR C s j:=by unfold getR;simp only[look_del hjk]
             rw[hR]at hr1
             exact⟨r1,hr1,rfl,rfl,rfl⟩
       · simp at ht
     · simp at ht
 |_=>intro s s1 u cs rc ex h ht;simp[takeV]at ht
end Go.V
namespace Go.V
open Go
def EqT (P : Program) (t : TypeId) : Prop := P.stoodInHeld t = false ∧ P.eqGuardType P.depth t = false ∧ ∀ f ∈ (P.fieldsOf t).toList, f.name ≠ "_"
def InfoOk (P:Program) (s:Sh) (t:TypeId):Prop:=
 ∃ i,P.info? t=some i∧i.size=s.size∧i.zero=some (packV (aggS s) (zcells s))∧(leafS s=true→EqT P t)
def ShOk (P:Program):Sh→Option (List Field×Nat)→TypeId→Prop
 |.int k,none,t=>P.underlying t=some (.int k)∧InfoOk P (.int k) t
 |.bool,none,t=>P.underlying t=some .bool∧InfoOk P .bool t
 |.str,none,t=>P.underlying t=some .string∧InfoOk P .str t
 |.unit,none,t=>∃ fs,P.underlying t=some (.struct fs)∧fs.toList=[]∧InfoOk P .unit t
 |.pair a b,none,t=>∃ fs f l,P.underlying t=some (.struct fs)∧InfoOk P (.pair a b) t∧fs.toList=f::l∧
  f.offset=0∧0<a.size∧ShOk P a none f.type∧ShOk P b (some (l,a.size)) t
 |.tok a b,none,t=>∃ fs f l,P.underlying t=some (.struct fs)∧InfoOk P (.tok a b) t∧fs.toList=f::l∧
  f.offset=0∧0<a.size∧ShOk P a none f.type∧ShOk P b (some (l,a.size)) t
 |.sl e a,none,t=>P.underlying t=some (.slice e)∧InfoOk P (.sl e a) t∧0<a.size∧ShOk P a none e∧P.bytesOf e≤128
 |.ptr a,none,t=>∃ e,P.underlying t=some (.pointer e)∧InfoOk P (.ptr a) t∧ShOk P a none e
 |.unit,some (l,_),_=>l=[]
 |.pair a b,some (l,off),t=>∃ f l',l=f::l'∧f.offset=off∧0<a.size∧ShOk P a none f.type∧ShOk P b (some (l',off+a.size)) t
 |_,_,_=>False
section
variable {P:Program}
theorem ShOk.info {s:Sh} {t:TypeId} (h:ShOk P s none t):InfoOk P s t:=by
 cases s with
 |int k=>exact h.2
 |bool=>exact h.2
 |str=>exact h.2
 |unit=>obtain⟨_,_,_,h⟩:=h;exact h
 |pair a b=>obtain⟨_,_,_,_,h,_⟩:=h;exact h
 |sl e a=>exact h.2.1
 |ptr a=>obtain⟨_,_,h,_⟩:=h;exact h
 |fn f c=>exact h.elim
 |tok a b=>obtain⟨_,_,_,_,h,_⟩:=h;exact h
 |md a=>exact h.elim
theorem ShOk.run_size {s:Sh} {t:TypeId} (h:ShOk P s none t) (w:World):(Go.sizeOf t).run P w = .ok s.size w:=by
 obtain⟨i,h1,h2,_⟩:=h.info
 rw[run_sizeOf w h1]
 simp[Program.cellsOf,h1,h2]
theorem ShOk.run_zero {s:Sh} {t:TypeId} (h:ShOk P s none t) (w:World):(zeroValue t).run P w = .ok (packV (aggS s) (zcells s)) w:=by
 obtain⟨i,h1,_,h3,_⟩:=h.info
 simp[zeroValue,run_typeInfo w h1,h3]
theorem ShOk.run_isAgg {s:Sh} {t:TypeId} (h:ShOk P s none t) (w:World):(isAgg t).run P w = .ok (aggS s) w:=by
 cases s with
 |int k=>simp[isAgg,run_underlying h.1,aggS,aggSh]
 |bool=>simp[isAgg,run_underlying h.1,aggS,aggSh]
 |str=>simp[isAgg,run_underlying h.1,aggS,aggSh]
 |unit=>obtain⟨_,h,_⟩:=h;simp[isAgg,run_underlying h,aggS,aggSh]
 |pair a b=>obtain⟨_,_,_,h,_⟩:=h;simp[isAgg,run_underlying h,aggS,aggSh]
 |sl e a=>simp[isAgg,run_underlying h.1,aggS,aggSh]
 |ptr a=>obtain⟨_,h,_⟩:=h;simp[isAgg,run_underlying h,aggS,aggSh]
 |fn f c=>exact h.elim
 |tok a b=>obtain⟨_,_,_,h,_⟩:=h;simp[isAgg,run_underlying h,aggS,aggSh]
 |md a=>exact h.elim
theorem aggS_size {s:Sh} (h:aggS s=false):s.size=1:=by
 induction s with
 |md a ih=>exact ih h
 |_=>first|rfl|(simp[aggS,aggSh]at h)
theorem cell_of_read {w:World} {b off n:Nat} {cs:List Value} (h:readC w b off n=some cs):∀ j v,cs[j]? = some v→w.cell? ⟨b,off+j,none⟩=some v:=by
 intro j v hj
 unfold readC at h
 split at h
 · rename_i cur e fr hb
   split at h
   · rename_i hle
     cases h
     simp only[World.cell?,hb]
     rw[List.getElem?_take]at hj
     split at hj
     · rw[List.getElem?_drop,Array.getElem?_toList]at hj
       simpa using hj
     · simp at hj
   · simp at h
 · simp at h
theorem readC_len {w:World} {b off n:Nat} {cs:List Value} (h:readC w b off n=some cs):cs.length=n:=by
 unfold readC at h
 split at h
 · split at h
   · rename_i hle;cases h;simp;omega
   · simp at h
 · simp at h
theorem add_none (b off n:Nat):(⟨b,off,none⟩:Addr).add n=⟨b,off+n,none⟩:=by
 unfold Addr.add
 split
 · rename_i h;subst h;rfl
 · rfl
theorem run_loadAt {s:Sh} {t:TypeId} (h:ShOk P s none t) {w:World} {b off:Nat} {cs:List Value} (hr:readC w b off s.size=some cs) :
  (Instr.loadAt t (.pointer (some ⟨b,off,none⟩))).run P w = .ok (packV (aggS s) cs) w:=by
 have hl:=readC_len hr
 have hc:=cell_of_read hr
 simp only[Instr.loadAt,Instr.sureAddr,loadVar,Sem.run_bind,Sem.run_pure,Result.andThen_ok,h.run_isAgg]
 cases ha:aggS s with
 | true=>
   simp only[if_true,Sem.run_bind,h.run_size,Result.andThen_ok]
   rw[←hl,run_loadCells_list w ⟨b,off,none⟩ cs fun j v hj=>by rw[add_none];exact hc j v hj]
   rfl
 | false=>
   have h1:=aggS_size ha
   rw[h1]at hl
   obtain⟨v,rfl⟩:=List.length_eq_one_iff.mp hl
   have:=hc 0 v rfl
   simp at this
   simp[load,Sem.run,this,packV]
end
theorem ask_drawn {α:Type}:∀(q:Ask α) (w:World),w.drawn≤(w.ask q).2.drawn:=by
 intro q
 induction q with
 |done a=>intro w;exact Nat.le_refl _
 | ask what range k ih=>
   intro w
   simp only[World.ask]
   split
   · exact ih _ _
   · exact Nat.le_trans (Nat.le_succ _) (ih _ { w with drawn:=w.drawn+1 })
theorem sys_drawn (w:World) (c:Sys):w.drawn≤(w.sys c).2.drawn:=by
 have:=ask_drawn (Kernel.perform c w.os) w
 unfold World.sys
 split
 · exact Nat.le_refl _
 · rename_i e;rw[e]at this;exact this
theorem view_drawn {P:Program} {w w2:World} {at_:Addr} {u:TypeId} {k:Addr} {v:Value} {b:Bool} {l:List Addr} (h:w.viewStore P at_ u k v b = .ok (w2,l)):w2.drawn=w.drawn:=by
 unfold World.viewStore at h
 simp only[bind,Except.bind,pure,Except.pure]at h
 repeat' split at h
 all_goals first|(cases h;done)|(cases h;rfl)
theorem run_drawn {α:Type} {P:Program}:∀ {m:Sem α} {w w':World} {v:α},m.run P w = .ok v w'→w.drawn≤w'.drawn:=by
 intro m
 induction m with
 |pure a=>intro w w' v h;simp only[Sem.run,Result.ok.injEq]at h;rw[h.2];exact Nat.le_refl _
 | load m a k ih=>
   intro w w' v h
   simp only[Sem.run]at h
   split at h
   · exact ih _ h
   · split at h
     · exact ih _ h
     · simp at h
 | store m a x k ih=>
   intro w w' v h
   have key:(match w.cell? a with
    | some _ => if w.frozen? a then (.halt (.unsupported (.unsafePointer "a write to bytes that a string shares")) w : Result α) else k.run P (w.setCell a x)
    | none=>match w.farStore P a x (m == Mode.atomic)with
      |.ok (w,_)=>k.run P w
      |.error h=>.halt h w) = .ok v w'→w.drawn≤w'.drawn:=by
    intro h
    split at h
    · split at h
      · simp at h
      · exact ih (w:=w.setCell a x) h
    · split at h
      · rename_i w2 _ e
        refine Nat.le_trans (Nat.le_of_eq ?_) (ih h)
        unfold World.farStore at e
        split at e
        · split at e
          · rename_i e2;cases e;exact(view_drawn e2).symm
          · cases e
        · cases e
      · simp at h
   cases x<;>first|(simp[Sem.run]at h;done)|exact key h
 |new o k ih=>intro w w' v h;exact ih _ (w:={ w with heap:=w.heap.push o }) h
 |shape r k ih=>intro w w' v h;exact ih _ h
 | freeze a n k ih=>
   intro w w' v h
   have:=ih (w:=w.freeze a n) h
   have e:(w.freeze a n).drawn=w.drawn:=by unfold World.freeze;split<;>rfl
   rw[e]at this;exact this
 |frozen a k ih=>intro w w' v h;exact ih _ h
 | getObj r k ih=>
   intro w w' v h
   simp only[Sem.run]at h
   split at h
   · simp at h
   · exact ih _ h
   · simp at h
 | setObj r o k ih=>
   intro w w' v h
   simp only[Sem.run]at h
   split at h
   · simp at h
   · exact ih (w:={ w with heap:=w.heap.setIfInBounds r o }) h
   · simp at h
 | choose q k ih=>
   intro w w' v h
   simp only[Sem.run]at h
   split at h
   · exact ih _ h
   · exact Nat.le_trans (Nat.le_succ _) (ih _ h)
 |sys c k ih=>intro w w' v h;exact Nat.le_trans (sys_drawn w c) (ih _ h)
 |program k ih=>intro w w' v h;exact ih _ h
 |mark m k ih=>intro w w' v h;exact ih h
 |halt h=>intro w w' v h;simp[Sem.run]at h
end Go.V
namespace Go.V
open Go
theorem getP_app:∀ {p q:List Step} {s:Sh} {x:s.den} {s':Sh} {x':s'.den},getP s x p=some ⟨s',x'⟩→getP s x (p++q)=getP s' x' q:=by
 intro p
 induction p with
 | nil => intro q s x s' x' h;have:(⟨s,x⟩:TV)=⟨s',x'⟩:=by cases s<;>simpa [getP]using h
          cases this;rfl
 | cons r p ih=>
   intro q s x s' x' h
   cases r<;>cases s<;>first|(simp[getP]at h;done)|(simp only[List.cons_append,getP];exact ih h)
theorem shP_app:∀ {p q:List Step} {s s':Sh},shP s p=some s'→shP s (p++q)=shP s' q:=by
 intro p
 induction p with
 | nil => intro q s s' h;have:s=s':=by cases s<;>simpa [shP]using h
          subst this;rfl
 | cons r p ih=>
   intro q s s' h
   cases r<;>cases s<;>first|(simp[shP]at h;done)|(simp only[List.cons_append,shP];exact ih h)
theorem oP_app:∀ {p q:List Step} {o o':O},oP o p=some o'→oP o (p++q)=oP o' q:=by
 intro p
 induction p with
 | nil => intro q o o' h;have:o=o':=by cases o<;>simpa [oP]using h
          subst this;rfl
 | cons r p ih=>
   intro q o o' h
   cases r<;>cases o<;>first|(simp[oP]at h;done)|(simp only[List.cons_append,oP];exact ih (by simpa [oP]using h))
theorem InB_app:∀ {p q:List Step} {s:Sh} {x:s.den} {s':Sh} {x':s'.den},getP s x p=some ⟨s',x'⟩→(InB s x (p++q)↔InB s x p∧InB s' x' q):=by
 intro p
 induction p with
 | nil => intro q s x s' x' h;have:(⟨s,x⟩:TV)=⟨s',x'⟩:=by cases s<;>simpa [getP]using h
          cases this;cases s<;>simp[InB]
 | cons r p ih=>
   intro q s x s' x' h
   cases r<;>cases s<;>first|(simp[getP]at h;done)|(simp only[List.cons_append,InB];first|exact ih h|(rw[and_assoc];exact and_congr_right fun _=>ih h))
theorem cellsP_app {w:World}:∀ {p q:List Step} {s:Sh} {cs c:List Value} {s':Sh},cellsP w s cs p=some c→shP s p=some s'→cellsP w s cs (p++q)=cellsP w s' c q:=by
 intro p
 induction p with
 | nil=>
   intro q s cs c s' h hs
   have:s=s':=by cases s<;>simpa [shP]using hs
   subst this
   have:cs=c:=by cases s<;>simpa [cellsP]using h
   subst this;rfl
 | cons r p ih=>
   intro q s cs c s' h hs
   cases r<;>cases s<;>try (simp[shP]at hs;done)
   · simp only[List.cons_append,cellsP]at h ⊢;exact ih h hs
   · simp only[List.cons_append,cellsP]at h ⊢;exact ih h hs
   · simp only[List.cons_append,cellsP]at h ⊢
     split at h
     · rename_i ad n cap
       split at h
       · rename_i c' hc';exact ih h hs
       · simp at h
     · simp at h
theorem locP_app:∀ {p q:List Step} {s s':Sh} {off off':Nat},locP s p=some off→shP s p=some s'→locP s' q=some off'→locP s (p++q)=some (off+off'):=by
 intro p
 induction p with
 | nil=>
   intro q s s' off off' h hs h'
   have:s=s':=by cases s<;>simpa [shP]using hs
   subst this
   have:off=0:=by cases s<;>simp[locP]at h<;>exact h.symm
   subst this;simpa using h'
 | cons r p ih=>
   intro q s s' off off' h hs h'
   cases r<;>cases s<;>try (simp[shP]at hs;done)
   · simp only[List.cons_append,locP]at h ⊢;exact ih h hs h'
   · simp only[List.cons_append,locP,Option.map_eq_some_iff]at h ⊢
     obtain⟨y,hy,rfl⟩:=h
     exact⟨y+off',ih hy hs h',by omega⟩
   · simp[locP]at h
theorem inner_of_loc:∀ {p:List Step} {s:Sh} {off:Nat},locP s p=some off→inner p=false:=by
 intro p
 induction p with
 |nil=>intro s off _;rfl
 | cons r p ih=>
   intro s off h
   cases r<;>cases s<;>try (simp[locP]at h;done)
   · simp only[locP]at h;simpa [inner]using ih h
   · simp only[locP,Option.map_eq_some_iff]at h;obtain⟨y,hy,_⟩:=h;simpa [inner]using ih hy
theorem InB_of_loc:∀ {p:List Step} {s:Sh} {off:Nat} (x:s.den),locP s p=some off→InB s x p:=by
 intro p
 induction p with
 |nil=>intro s off x _;cases s<;>trivial
 | cons r p ih=>
   intro s off x h
   cases r<;>cases s<;>try (simp[locP]at h;done)
   · exact ih _ h
   · simp only[locP,Option.map_eq_some_iff]at h;obtain⟨y,hy,_⟩:=h;exact ih _ hy
theorem Rep.loc {w:World} {fz:Nat→Prop} {p:List Step} {s:Sh} {o:O} {x:s.den} {cs bs} {s':Sh} {x':s'.den} {o':O} {off:Nat}
  (h:Rep w fz s o x cs bs) (hl:locP s p=some off) (hg:getP s x p=some ⟨s',x'⟩) (ho:oP o p=some o') :
  cellsP w s cs p=some ((cs.drop off).take s'.size)∧off+s'.size≤cs.length:=by
 obtain⟨off',cs',bs',rest,e1,e2,e3,e4,_⟩:=h.setField (inner_of_loc hl) hg ho
 rw[hl]at e1;cases e1
 exact⟨by rw[e2,e4],e3⟩
theorem readC_part {w:World} {b o n off m:Nat} {ec:List Value} (h:readC w b o n=some ec) (hm:off+m≤n):readC w b (o+off) m=some ((ec.drop off).take m):=by
 unfold readC at *
 split at h
 · rename_i cur e fr hb
   split at h
   · rename_i hle
     cases h
     rw[if_pos (by omega)]
     congr 1
     rw[List.drop_take,List.take_take,List.drop_drop,Nat.min_eq_left (by omega)]
   · simp at h
 · simp at h
theorem readC_all {w:World} {b:Nat} {cur:Array Value} {e:TypeId} {fr:Nat×Nat} (h:w.heap[b]? = some (.cells cur e fr)):readC w b 0 cur.toList.length=some cur.toList:=by
 rw[readC_of h (by simp)];simp[List.take_of_length_le]
section
variable {w:World} {fz:Nat→Prop} {R:Nat→Option Root} {rc:Nat→RC}
theorem mkRef_ok {key:Nat} {r:Root} (hr:R key=some r) (hok:Rep w fz r.s r.o r.x (rc key).cs (rc key).bs) (hR:∀ r',R key=some r'→r'=r) :
  ∀ {sh:Sh} {o:O} {x:sh.den} {p:List Step} {cs:List Value},getP r.s r.x p=some ⟨sh,x⟩→oP r.o p=some o→InB r.s r.x p→
   cellsP w r.s (rc key).cs p=some cs→VCells w fz R rc (mkRef key sh o x p) cs:=by
 intro sh
 induction sh with
 | pair a b iha ihb=>
   intro o x p cs hg ho hin hc
   cases o with
   | z=>
     obtain⟨cs',bs',g1,g2,_⟩:=hok.get hg ho hin
     rw[hc]at g1;cases g1
     have:=g2.z_nil;subst this
     exact g2
   |dead=>trivial
   |own _=>trivial
   | pr oa ob=>
     obtain⟨cs',bs',g1,g2,_⟩:=hok.get hg ho hin
     rw[hc]at g1;cases g1
     obtain⟨c1,c2,b1,b2,rfl,rfl,k1,k2⟩:=g2
     have hs:=getP_shP hg
     refine⟨c1,c2,rfl,iha ?_ ?_ ?_ ?_,ihb ?_ ?_ ?_ ?_⟩
     · rw[getP_app hg];cases a<;>rfl
     · rw[oP_app ho];cases oa<;>rfl
     · rw[InB_app hg];exact⟨hin,by cases a<;>trivial⟩
     · rw[cellsP_app hc hs];simp only[cellsP];rw[List.take_left' k1.len]
     · rw[getP_app hg];cases b<;>rfl
     · rw[oP_app ho];cases ob<;>rfl
     · rw[InB_app hg];exact⟨hin,by cases b<;>trivial⟩
     · rw[cellsP_app hc hs];simp only[cellsP];rw[List.drop_left' k1.len]
 | sl e a _=>
   intro o x p cs hg ho hin hc
   cases o with
   | z=>
     obtain⟨cs',bs',g1,g2,_⟩:=hok.get hg ho hin
     rw[hc]at g1;cases g1
     have:=g2.z_nil;subst this
     exact g2
   | own oa=>
     intro r' hr'
     have:=hR r' hr';subst this
     exact⟨hin,⟨_,ho⟩,hc,e,a,getP_shP hg⟩
   |_=>trivial
 | _=>
   intro o x p cs hg ho hin hc
   cases o with
   | z=>
     obtain⟨cs',bs',g1,g2,_⟩:=hok.get hg ho hin
     rw[hc]at g1;cases g1
     have:=g2.z_nil;subst this
     exact g2
   |_=>trivial
theorem aggV_mkRef {key:Nat} {sh:Sh} {o:O} {x:sh.den} {p:List Step} (h:mkRef key sh o x p≠.undef):aggV (mkRef key sh o x p)=aggS sh:=by
 cases o<;>cases sh<;>simp_all [mkRef,aggV,aggS,aggSh]
theorem VCells.vok {v:Val} {cs:List Value} (h:VCells w fz R rc v cs):VOk w fz R rc v (packV (aggV v) cs):=by
 cases v<;>first|exact h.elim|trivial|exact⟨cs,h,rfl⟩
theorem mkRef_vok {key:Nat} {sh:Sh} {o:O} {x:sh.den} {p:List Step} {cs:List Value} (h:VCells w fz R rc (mkRef key sh o x p) cs) :
  VOk w fz R rc (mkRef key sh o x p) (packV (aggS sh) cs):=by
 by_cases hu:mkRef key sh o x p = .undef
 · rw[hu];trivial
 · rw[←aggV_mkRef hu];exact h.vok
end
theorem same_eq {a:Sh} {b:Option Sh} (h:same a b=true):b=some a:=by
 unfold same at h
 split at h
 · split at h
   · rename_i e _;rw[e]
   · simp at h
 · simp at h
theorem readC_same {w w':World} {b off n:Nat} {c:List Value} (h:w'.heap[b]? = w.heap[b]?) (hr:readC w b off n=some c):readC w' b off n=some c:=by
 unfold readC at *;rw[h];exact hr
theorem getP_of_shP:∀ {p:List Step} {s s':Sh} (x:s.den),shP s p=some s'→∃ x',getP s x p=some ⟨s',x'⟩:=by
 intro p
 induction p with
 | nil => intro s s' x h;have:s=s':=by cases s<;>simpa [shP]using h
          subst this;exact⟨x,by cases s<;>rfl⟩
 | cons q p ih=>
   intro s s' x h
   cases q<;>cases s<;>first|(simp[shP]at h;done)|(simp only[shP]at h;simp only[getP];exact ih _ h)
theorem VCells.len' {rc:Nat→RC} {ex:List Nat} {C s:St} {X:Fr} {w0:World} {a:Act} {w:World} (h:Rel rc ex C s X w0 a w):∀ {v:Val} {cs:List Value} {sh:Sh},VCells w (fzOf X w (ex++allB rc (s.roots++C.roots))) (getR C s) rc v cs→shV C s v=some sh→
  cs.length=sh.size∧aggV v=aggSh sh:=by
 intro v
 induction v with
 | t sh0 oo x=>
   intro cs sh hv hs
   simp only[shV,Option.some.injEq]at hs;subst hs
   exact⟨Rep.len hv,rfl⟩
 | own k p=>
   intro cs sh hv hs
   simp only[shV]at hs
   split at hs
   · rename_i r hr
     obtain⟨hin,⟨o',hoo⟩,hc,e,sa,hsh⟩:=hv r hr
     rw[hs]at hsh;cases hsh
     obtain⟨x',hg⟩:=getP_of_shP r.x hs
     obtain⟨cs',bs',g1,g2,_⟩:=(h.root hr).1.get hg hoo hin
     rw[hc]at g1;cases g1
     exact⟨g2.len,rfl⟩
   · simp at hs
 | pair u v ihu ihv=>
   rintro cs sh ⟨c1,c2,rfl,h1,h2⟩ hs
   simp only[shV]at hs
   split at hs
   · rename_i x y ex ey
     cases hs
     obtain⟨l1,_⟩:=ihu h1 ex
     obtain⟨l2,_⟩:=ihv h2 ey
     exact⟨by simp[l1,l2,Sh.size],rfl⟩
   · simp at hs
 | faddr sh0 x=>
   intro cs sh hv hs
   simp only[shV,Option.some.injEq]at hs;subst hs
   exact⟨Rep.len hv,rfl⟩
 | clo f c ih=>
   rintro cs sh ⟨ccs,rfl,_⟩ hs
   simp only[shV]at hs
   split at hs
   · cases hs;exact⟨rfl,rfl⟩
   · simp at hs
 |_=>intro cs sh _ hs;simp[shV]at hs
theorem shV_plain {C s:St} {v:Val} {sh:Sh} (h:shV C s v=some sh):(∀ a b,v≠.tup a b)∧v≠.tnil∧v≠.undef:=by
 refine⟨fun a b=>?_,?_,?_⟩<;>rintro rfl<;>simp[shV]at h
theorem VOk.of {w:World} {fz:Nat→Prop} {R:Nat→Option Root} {rc:Nat→RC} {v:Val} {cs:List Value} (hv:VCells w fz R rc v cs) (h:(∀ a b,v≠.tup a b)∧v≠.tnil∧v≠.undef):VOk w fz R rc v (packV (aggV v) cs):=by
 cases v<;>first|exact⟨cs,hv,rfl⟩|exact absurd rfl (h.1 _ _)|exact absurd rfl h.2.1|exact absurd rfl h.2.2
theorem loadV_ok {P:Program} {rc:Nat→RC} {ex:List Nat} {C s:St} {X:Fr} {w0:World} {a:Act} {w:World} (h:Rel rc ex C s X w0 a w)
  {t:TypeId} {tsh:Option Sh} (ht:∀ sh,tsh=some sh→ShOk P sh none t) {ad v:Val} {cs:List Value}
  (hvc:VCells w (fzOf X w (ex++allB rc (s.roots++C.roots))) (getR C s) rc ad cs) (hl:loadV C s tsh ad=some v) {F:Nat→Prop} (hF:∀ b,fzOf X w (ex++allB rc (s.roots++C.roots)) b→F b)
  (hF2:∀ k∈keys ad,∀ r,getR C s k=some r→∀ b∈blocks r (rc k),F b) :
  ∃ c,(∀ w',(∀ b,F b→w'.heap[b]? = w.heap[b]?)→(Instr.loadAt t (packV (aggV ad) cs)).run P w' = .ok c w')∧VOk w (fzOf X w (ex++allB rc (s.roots++C.roots))) (getR C s) rc v c:=by
 have ptr:∀ {sh:Sh} {x:sh.den} {cs:List Value},ShOk P sh none t→Rep w (fzOf X w (ex++allB rc (s.roots++C.roots))) (.ptr sh) .z x cs []→
   ∃ c,(∀ w',(∀ b,F b→w'.heap[b]? = w.heap[b]?)→(Instr.loadAt t (packV false cs)).run P w' = .ok c w')∧VOk w (fzOf X w (ex++allB rc (s.roots++C.roots))) (getR C s) rc (.t sh .z x) c:=by
  intro sh x cs hsh hr
  obtain⟨b,off,es,rfl,_,hz,hre,hc⟩:=hr
  have hrd:=hc.read (i:=0) (n:=sh.size) (by rw[hre.len];omega)
  have he:(es.drop 0).take sh.size=es:=by rw[List.drop_zero,List.take_of_length_le (by rw[hre.len];exact Nat.le_refl _)]
  rw[he]at hrd
  exact⟨_,fun w' hw=>run_loadAt hsh (readC_same (hw b (hF b hz)) hrd),⟨es,hre,rfl⟩⟩
 have hv:=hvc.vc0
 cases ad with
 | vbox u=>
   simp only[loadV]at hl
   split at hl
   · rename_i hs
     cases hl
     unfold sameO at hs
     split at hs
     · rename_i sh hsh
       obtain⟨blk,off,cur,e,pre,ccs,post,rfl,h1,h2,h3,rfl,h5⟩:=hvc
       obtain⟨hlen,hag⟩:=VCells.len' h h5 hsh
       have hrd:=readC_all h2
       rw[h3]at hrd
       have hrd2:=readC_part hrd (off:=pre.length) (m:=sh.size) (by simp only[List.length_append];omega)
       rw[Nat.zero_add,List.drop_left,←hlen,List.take_left,hlen]at hrd2
       refine⟨_,fun w' hw=>run_loadAt (ht _ (same_eq hs)) (readC_same (hw blk (hF blk h1)) hrd2),?_⟩
       have:=VOk.of h5 (shV_plain hsh)
       rw[hag]at this
       exact this
     · cases hs
   · simp at hl
 | faddr sh x=>
   simp only[loadV]at hl
   split at hl
   · rename_i hs;cases hl;exact ptr (ht _ (same_eq hs)) hv
   · simp at hl
 | t sh o x=>
   cases sh with
   | ptr sh=>
     cases o with
     | z=>
       simp only[loadV]at hl
       split at hl
       · rename_i hs;cases hl;exact ptr (ht _ (same_eq hs)) hv
       · simp at hl
     |_=>simp[loadV]at hl
   |_=>simp[loadV]at hl
 | baddr key p=>
   simp only[loadV]at hl
   split at hl
   · rename_i r hr
     split at hl
     · rename_i o sh x hbox ho hg
       split at hl
       · rename_i hs
         cases hl
         obtain⟨off,h1,rfl⟩:=hv r hr hbox
         have hok:=h.root hr
         obtain⟨cur,e,k1,k2⟩:=hok.2 hbox
         obtain⟨g1,g2⟩:=hok.1.loc h1 hg ho
         have hrd:readC w (rc key).blk (0+off) sh.size=some (((rc key).cs.drop off).take sh.size):=by
          have:=readC_all k1
          rw[k2]at this
          exact readC_part this g2
         rw[Nat.zero_add]at hrd
         exact⟨_,fun w' hw=>run_loadAt (ht _ (same_eq hs)) (readC_same (hw _ (hF2 key (by simp[keys]) r hr _ (by simp[blocks,hbox]))) hrd),mkRef_vok (mkRef_ok hr hok.1 (fun r' h'=>by rw[hr]at h';cases h';rfl) hg ho (InB_of_loc _ h1) g1)⟩
       · simp at hl
     · simp at hl
   · simp at hl
 | eaddr key p i fp=>
   simp only[loadV]at hl
   split at hl
   · rename_i r hr
     split at hl
     · rename_i o sh x ho hg
       split at hl
       · rename_i hs
         cases hl
         obtain⟨g,n,cap,e,ea,off,h1,h2,h3,h4,h5,rfl⟩:=hv r hr
         have hok:=h.root hr
         obtain⟨⟨s0,x0⟩,hg0⟩:∃ tv,getP r.s r.x p=some tv:=by
          have:∀ {p q:List Step} {s:Sh} {x:s.den} {tv:TV},getP s x (p++q)=some tv→∃ tv',getP s x p=some tv':=by
           intro p
           induction p with
           |nil=>intro q s x tv _;exact⟨⟨s,x⟩,by cases s<;>rfl⟩
           | cons r p ih=>
             intro q s x tv h
             cases r<;>cases s<;>first|(simp[getP]at h;done)|(simp only[List.cons_append,getP]at h ⊢;exact ih h)
          exact this hg
         have hs0:=getP_shP hg0
         rw[h3]at hs0;cases hs0
         obtain⟨o0,ho0⟩:∃ o0,oP r.o p=some o0:=by
          have:∀ {p q:List Step} {o o':O},oP o (p++q)=some o'→∃ o0,oP o p=some o0:=by
           intro p
           induction p with
           |nil=>intro q o o' _;exact⟨o,by cases o<;>rfl⟩
           | cons r p ih=>
             intro q o o' h
             cases r<;>cases o<;>first|(simp[oP]at h;done)|(simp only[List.cons_append,oP]at h ⊢;exact ih h)
          exact this ho
         obtain⟨cs0,bs0,k1,k2,kb⟩:=hok.1.get hg0 ho0 h1
         rw[h2]at k1;cases k1
         have hin0:InB (.sl e ea) x0 (.i i::fp):=by
          have hlen:n=List.length x0:=by
           cases o0 with
           |z=>obtain⟨A,cap',es,e1,_⟩:=k2;simp at e1;exact e1.2.1
           | own oa=>
             obtain⟨v,es,ebs,e1,_,e2⟩:=k2
             rcases e2 with⟨rfl,_⟩|⟨g',cap',cur,rfl,_⟩
             · simp at e1
             · simp at e1;exact e1.2.1
           |dead=>rw[oP_app ho0]at ho;simp[oP]at ho
           |pr _ _=>exact k2.elim
          exact⟨by omega,InB_of_loc _ h5⟩
         have hFg:F g:=by
          have hlt:i<List.length x0:=hin0.1
          cases o0 with
          | z=>
            obtain⟨A,cap',es,e1,_,_,_,_,e2⟩:=k2
            rcases e2 with rfl|⟨b',off',rfl,hz,_⟩
            · simp at hlt
            · simp at e1;rw[e1.1.1];exact hF _ hz
          | own oa=>
            obtain⟨v,es,ebs,e1,_,e2⟩:=k2
            rcases e2 with⟨rfl,_⟩|⟨g',cap',cur,rfl,_,_,_,_,_,rfl⟩
            · simp at e1
            · simp at e1
              refine hF2 key (by simp[keys]) r hr g ?_
              have:=kb g' (by simp)
              rw[e1.1];unfold blocks;split<;>simp[this]
          |dead=>rw[oP_app ho0]at ho;simp[oP]at ho
          |pr _ _=>exact k2.elim
         have hin:InB r.s r.x (p ++ .i i::fp):=(InB_app hg0).mpr ⟨h1,hin0⟩
         obtain⟨cs',bs',m1,m2,_⟩:=hok.1.get hg ho hin
         have m1':=m1
         rw[cellsP_app h2 h3]at m1'
         simp only[cellsP,Nat.zero_add]at m1'
         split at m1'
         · rename_i ec hec
           have hge:getP ea (List.getD x0 i ea.zv) fp=some ⟨sh,x⟩:=by rw[getP_app hg0]at hg;simpa [getP]using hg
           obtain⟨oe,hoe⟩:∃ oe,oP o0 [.i i]=some oe:=by
            rw[oP_app ho0]at ho
            cases o0<;>first|(simp[oP]at ho;done)|exact⟨_,rfl⟩
           have hoe2:oP oe fp=some o:=by
            rw[oP_app ho0,show(Step.i i::fp)=[.i i]++fp from rfl,oP_app hoe]at ho;exact ho
           obtain⟨ce,be,n1,n2,_⟩:=k2.get (p:=[.i i]) (s':=ea) (x':=List.getD x0 i ea.zv) (by simp only[getP]) hoe ⟨hin0.1,by cases ea<;>trivial⟩
           simp only[cellsP,Nat.zero_add,hec]at n1
           have n1:ec=ce:=by cases ea<;>simpa [cellsP]using n1
           subst n1
           obtain⟨q1,q2⟩:=n2.loc h5 hge hoe2
           have hrd:=readC_part hec (off:=off) (m:=sh.size) (by rw[←readC_len hec];exact q2)
           exact⟨_,fun w' hw=>run_loadAt (ht _ (same_eq hs)) (readC_same (hw _ hFg) hrd),mkRef_vok (mkRef_ok hr hok.1 (fun r' h'=>by rw[hr]at h';cases h';rfl) hg ho hin (by rw[m1];rw[q1]at m1';exact m1'.symm))⟩
         · simp at m1'
       · simp at hl
     · simp at hl
   · simp at hl
 |_=>simp[loadV]at hl
end Go.V
namespace Go.V
open Go
theorem Rep.hole {w:World} {fz fz1:Nat→Prop} (hf:∀ b,fz b→fz1 b):∀ {s:Sh} {o:O} {x:s.den} {cs:List Value} {bs:List Nat},Rep w fz s o x cs bs→(∀ b∈bs,fz1 b)→
  Rep w fz1 (Go.V.hole s o x).1 .z (Go.V.hole s o x).2 cs []∧(Go.V.hole s o x).1.size=s.size:=by
 have base:∀ {s:Sh} {o:O} {x:s.den} {cs:List Value} {bs:List Nat},Rep w fz s o x cs bs→(∀ b∈bs,fz1 b)→
   Rep w fz1 (match o.alive with|true=>(⟨s,x⟩:TV)|false=>⟨.md s,(false,x)⟩).1 .z (match o.alive with|true=>(⟨s,x⟩:TV)|false=>⟨.md s,(false,x)⟩).2 cs []∧
    (match o.alive with|true=>(⟨s,x⟩:TV)|false=>⟨.md s,(false,x)⟩).1.size=s.size:=by
  intro s o x cs bs h hb
  cases ha:o.alive with
  |true=>exact⟨h.freeze hf ha hb,rfl⟩
  |false=>exact⟨⟨rfl,h.len,h.one⟩,rfl⟩
 intro s
 induction s with
 | pair a b iha ihb=>
   intro o x cs bs h hb
   cases o with
   | pr oa ob=>
     obtain⟨c1,c2,b1,b2,rfl,rfl,h1,h2⟩:=h
     obtain⟨k1,k2⟩:=iha h1 fun b hm=>hb b (by simp[hm])
     obtain⟨k3,k4⟩:=ihb h2 fun b hm=>hb b (by simp[hm])
     exact⟨⟨c1,c2,rfl,rfl,k1,k3⟩,by show Sh.size _+Sh.size _=_;rw[k2,k4];rfl⟩
   |_=>exact base h hb
 |_=>intro o x cs bs h hb;cases o<;>exact base h hb
theorem view_ok {rc:Nat→RC} {ex:List Nat} {C s:St} {X:Fr} {w0:World} {a:Act} {w:World} (h:Rel rc ex C s X w0 a w) {fz1:Nat→Prop}
  (hf:∀ b,fzOf X w (ex++allB rc (s.roots++C.roots)) b→fz1 b):∀ {v:Val} {cs:List Value} {sh:Sh} {x:sh.den},
  VC0 w (fzOf X w (ex++allB rc (s.roots++C.roots))) (getR C s) rc v cs→view C s v=some ⟨sh,x⟩→
  (∀ k∈keys v,∀ r,getR C s k=some r→∀ b∈(rc k).bs,fz1 b)→(∀ k∈boxKeys v,∀ r,getR C s k=some r→r.box=true→fz1 (rc k).blk)→Rep w fz1 sh .z x cs []:=by
 intro v
 induction v with
 | t sh0 o x0=>
   intro cs sh x hv hw _ _
   simp only[view]at hw
   split at hw
   · rename_i ha;cases hw;exact Rep.freeze hf hv ha (by simp)
   · simp at hw
 | own key p=>
   intro cs sh x hv hw hk hkb
   simp only[view]at hw
   split at hw
   · rename_i r hr
     split at hw
     · rename_i o ho
       split at hw
       · rename_i ha
         obtain⟨hin,hc,_⟩:=hv r hr
         obtain⟨cs',bs',g1,g2,g3⟩:=(h.root hr).1.get hw ho hin
         rw[hc]at g1;cases g1
         exact g2.freeze hf ha fun b hb=>hk key (by simp[keys]) r hr b (g3 b hb)
       · simp at hw
     · simp at hw
   · simp at hw
 | pair a b iha ihb=>
   rintro cs sh x ⟨c1,c2,rfl,h1,h2⟩ hw hk hkb
   simp only[view]at hw
   split at hw
   · rename_i sa xa sb xb ea eb
     cases hw
     exact⟨c1,c2,rfl,rfl,iha h1 ea (fun k hk'=>hk k (by simp[keys,hk'])) (fun k hk'=>hkb k (by simp[boxKeys,hk'])),ihb h2 eb (fun k hk'=>hk k (by simp[keys,hk'])) fun k hk'=>hkb k (by simp[boxKeys,hk'])⟩
   · simp at hw
 | baddr key p=>
   intro cs sh x hv hw hk hkb
   simp only[view]at hw
   split at hw
   · rename_i r hr
     split at hw
     · rename_i o hbox ho
       split at hw
       · rename_i ha
         split at hw
         · rename_i sh' x' hg
           cases hw
           obtain⟨off,hl,rfl⟩:=hv r hr hbox
           have hok:=h.root hr
           obtain⟨cur,e,g1,g2⟩:=hok.2 hbox
           obtain⟨l1,l2⟩:=hok.1.loc hl hg ho
           obtain⟨cs',bs',k1,k2,k3⟩:=hok.1.get hg ho (InB_of_loc _ hl)
           rw[l1]at k1;cases k1
           refine⟨(rc key).blk,off,_,rfl,rfl,hkb key (by simp[boxKeys]) r hr hbox,
            k2.freeze hf ha fun b hb=>hk key (by simp[keys]) r hr b (k3 b hb),?_⟩
           have:CellsAt w (rc key).blk 0 (rc key).cs:=⟨cur,e,(0,0),g1,by rw[←g2];simp,by rw[←g2];simp[List.take_of_length_le]⟩
           have:=this.sub (o:=off) (n:=sh'.size) l2
           rwa [Nat.zero_add]at this
         · simp at hw
       · split at hw
         · rename_i sh' x' hg
           simp only[Option.some.injEq]at hw
           obtain⟨off,hl,rfl⟩:=hv r hr hbox
           have hok:=h.root hr
           obtain⟨cur,e,g1,g2⟩:=hok.2 hbox
           obtain⟨l1,l2⟩:=hok.1.loc hl hg ho
           obtain⟨cs',bs',k1,k2,k3⟩:=hok.1.get hg ho (InB_of_loc _ hl)
           rw[l1]at k1;cases k1
           obtain⟨q1,q2⟩:=k2.hole hf fun b hb=>hk key (by simp[keys]) r hr b (k3 b hb)
           cases hw
           refine⟨(rc key).blk,off,_,rfl,rfl,hkb key (by simp[boxKeys]) r hr hbox,q1,?_⟩
           have:CellsAt w (rc key).blk 0 (rc key).cs:=⟨cur,e,(0,0),g1,by rw[←g2];simp,by rw[←g2];simp[List.take_of_length_le]⟩
           have:=this.sub (o:=off) (n:=sh'.size) l2
           rwa [Nat.zero_add]at this
         · simp at hw
     · simp at hw
   · simp at hw
 | faddr sh0 x0=>
   intro cs sh x hv hw _ _
   simp only[view,Option.some.injEq]at hw
   cases hw
   exact Rep.stable (fun b hb=>⟨hf b hb,rfl⟩) hv (by simp)
 | clo f c ih=>
   rintro cs sh x ⟨ccs,rfl,h1⟩ hw hk hkb
   simp only[view]at hw
   split at hw
   · rename_i sh' x' e
     cases hw
     exact⟨ccs,rfl,ih h1 e hk hkb⟩
   · simp at hw
 |_=>intro cs sh x _ hw;simp[view]at hw
theorem keys_box:∀ {v:Val} {k:Nat},k∈boxKeys v→k∈keys v:=by
 intro v
 induction v with
 |pair a b iha ihb=>intro k h;simp only[boxKeys,keys,List.mem_append]at *;exact h.imp iha ihb
 |tup a b iha ihb=>intro k h;simp only[boxKeys,keys,List.mem_append]at *;exact h.imp iha ihb
 |baddr k p=>intro k h;simpa [boxKeys,keys]using h
 |clo f c ih=>intro k h;exact ih h
 |_=>intro k h;simp[boxKeys]at h
end Go.V
namespace Go.V
open Go
theorem flat_sl:∀ {p:List Step} {s:Sh} {e:TypeId} {a:Sh},s.flat=true→shP s p=some (.sl e a)→False:=by
 intro p
 induction p with
 |nil=>intro s e a h1 h2;cases s<;>simp[shP]at h2;simp[Sh.flat]at h1
 | cons q p ih=>
   intro s e a h1 h2
   cases s<;>cases q<;>try (simp[shP]at h2;done)
   · simp only[Sh.flat,Bool.and_eq_true]at h1;exact ih h1.1 h2
   · simp only[Sh.flat,Bool.and_eq_true]at h1;exact ih h1.2 h2
   · simp[Sh.flat]at h1
theorem setP_f {a b:Sh} {x x1:(Sh.pair a b).den} {p:List Step} {v:TV} (h:setP (.pair a b) x (.f::p) v=some x1):∃ y,setP a x.1 p v=some y∧(y,x.2)=x1:=by
 simp only[setP]at h
 cases hy:setP a x.1 p v with
 |none=>rw[hy]at h;exact absurd (show(none:Option (Sh.pair a b).den)=some x1 from h) (by simp)
 |some y=>rw[hy]at h;exact⟨y,rfl,Option.some.inj h⟩
theorem setP_s {a b:Sh} {x x1:(Sh.pair a b).den} {p:List Step} {v:TV} (h:setP (.pair a b) x (.s::p) v=some x1):∃ y,setP b x.2 p v=some y∧(x.1,y)=x1:=by
 simp only[setP]at h
 cases hy:setP b x.2 p v with
 |none=>rw[hy]at h;exact absurd (show(none:Option (Sh.pair a b).den)=some x1 from h) (by simp)
 |some y=>rw[hy]at h;exact⟨y,rfl,Option.some.inj h⟩
theorem InB_setP:∀ {p p':List Step} {s sp:Sh} {x x1:s.den} {v:TV} {e:TypeId} {a:Sh},inner p=false→shP s p=some sp→sp.flat=true→shP s p'=some (.sl e a)→setP s x p v=some x1→InB s x p'→InB s x1 p':=by
 intro p
 induction p with
 | nil => intro p' s sp x x1 v e a _ h1 h2 h3 _ _;have:s=sp:=by cases s<;>simpa [shP]using h1
          subst this;exact(flat_sl h2 h3).elim
 | cons q p ih=>
   intro p' s sp x x1 v e a hi h1 h2 h3 h4 h5
   cases q with
   | f=>
     cases s<;>try (simp[shP]at h1;done)
     rename_i sa sb
     have h1:shP sa p=some sp:=h1
     obtain⟨y,hy,rfl⟩:=setP_f h4
     cases p' with
     |nil=>simp[shP]at h3
     | cons q' p'=>
       cases q' with
       |f=>exact(ih (s:=sa) (by simpa [inner]using hi) h1 h2 h3 hy h5:InB sa y p')
       |s=>exact h5
       |i n=>simp[shP]at h3
   | s=>
     cases s<;>try (simp[shP]at h1;done)
     rename_i sa sb
     have h1:shP sb p=some sp:=h1
     obtain⟨y,hy,rfl⟩:=setP_s h4
     cases p' with
     |nil=>simp[shP]at h3
     | cons q' p'=>
       cases q' with
       |s=>exact(ih (s:=sb) (by simpa [inner]using hi) h1 h2 h3 hy h5:InB sb y p')
       |f=>exact h5
       |i n=>simp[shP]at h3
   |i n=>simp[inner]at hi
theorem oP_setO:∀ {p p':List Step} {s sp:Sh} {o o1 o2:O} {e:TypeId} {a:Sh},inner p=false→shP s p=some sp→sp.flat=true→shP s p'=some (.sl e a)→setO o p o2=some o1→(∃ o',oP o p'=some o')→∃ o',oP o1 p'=some o':=by
 intro p
 induction p with
 | nil => intro p' s sp o o1 o2 e a _ h1 h2 h3 _ _;have:s=sp:=by cases s<;>simpa [shP]using h1
          subst this;exact(flat_sl h2 h3).elim
 | cons q p ih=>
   have prf:∀ {x y:O} {p':List Step},(∃ o',oP x p'=some o')→∃ o',oP (prz x y) (.f::p')=some o':=by
    intro x y p' h
    cases x<;>cases y<;>first|exact h|exact⟨_,oP_zz⟩
   have prs:∀ {x y:O} {p':List Step},(∃ o',oP y p'=some o')→∃ o',oP (prz x y) (.s::p')=some o':=by
    intro x y p' h
    cases x<;>cases y<;>first|exact h|exact⟨_,oP_zz⟩
   intro p' s sp o o1 o2 e a hi h1 h2 h3 h4 h5
   cases q with
   | f=>
     cases s<;>try (simp[shP]at h1;done)
     have hi':inner p=false:=by simpa [inner]using hi
     cases p' with
     |nil=>simp[shP]at h3
     | cons q' p'=>
       cases o<;>try (simp[setO]at h4;done)
       · simp only[setO,Option.map_eq_some_iff]at h4
         obtain⟨y,hy,rfl⟩:=h4
         cases q' with
         |f=>exact prf (ih hi' h1 h2 h3 hy ⟨_,oP_zz⟩)
         |s=>exact prs ⟨_,oP_zz⟩
         |i n=>simp[shP]at h3
       · simp only[setO,Option.map_eq_some_iff]at h4
         obtain⟨y,hy,rfl⟩:=h4
         cases q' with
         |f=>exact prf (ih hi' h1 h2 h3 hy h5)
         |s=>exact prs h5
         |i n=>simp[shP]at h3
   | s=>
     cases s<;>try (simp[shP]at h1;done)
     have hi':inner p=false:=by simpa [inner]using hi
     cases p' with
     |nil=>simp[shP]at h3
     | cons q' p'=>
       cases o<;>try (simp[setO]at h4;done)
       · simp only[setO,Option.map_eq_some_iff]at h4
         obtain⟨y,hy,rfl⟩:=h4
         cases q' with
         |s=>exact prs (ih hi' h1 h2 h3 hy ⟨_,oP_zz⟩)
         |f=>exact prf ⟨_,oP_zz⟩
         |i n=>simp[shP]at h3
       · simp only[setO,Option.map_eq_some_iff]at h4
         obtain⟨y,hy,rfl⟩:=h4
         cases q' with
         |s=>exact prs (ih hi' h1 h2 h3 hy h5)
         |f=>exact prf h5
         |i n=>simp[shP]at h3
   |i n=>simp[inner]at hi
theorem locP_le:∀ {p:List Step} {s sp:Sh} {off:Nat},locP s p=some off→shP s p=some sp→off+sp.size≤s.size:=by
 intro p
 induction p with
 | nil => intro s sp off h1 h2;have:s=sp:=by cases s<;>simpa [shP]using h2
          subst this;have:off=0:=by cases s<;>simp[locP]at h1<;>exact h1.symm
          omega
 | cons q p ih=>
   intro s sp off h1 h2
   cases q<;>cases s<;>try (simp[locP]at h1;done)
   · have:=ih h1 h2;simp only[Sh.size];omega
   · simp only[locP,Option.map_eq_some_iff]at h1
     obtain⟨y,hy,rfl⟩:=h1
     have:=ih hy h2;simp only[Sh.size];omega
theorem cellsP_repl {w:World}:∀ {p p':List Step} {s sp:Sh} {off:Nat} {c2 cs:List Value} {e:TypeId} {a:Sh},locP s p=some off→shP s p=some sp→sp.flat=true→shP s p'=some (.sl e a)→
  c2.length=sp.size→cs.length=s.size→cellsP w s (repl off c2 cs) p'=cellsP w s cs p':=by
 intro p
 induction p with
 | nil => intro p' s sp off c2 cs e a _ h1 h2 h3 _ _;have:s=sp:=by cases s<;>simpa [shP]using h1
          subst this;exact(flat_sl h2 h3).elim
 | cons q p ih=>
   intro p' s sp off c2 cs e a h0 h1 h2 h3 h4 h5
   cases q with
   | f=>
     cases s<;>try (simp[locP]at h0;done)
     rename_i sa sb
     simp only[locP,shP]at h0 h1
     have hle:=locP_le h0 h1
     simp only[Sh.size]at h5
     obtain⟨c1,c3,rfl,e1⟩:∃ c1 c3,cs=c1++c3∧c1.length=sa.size:=⟨cs.take sa.size,cs.drop sa.size,(List.take_append_drop _ _).symm,by rw[List.length_take];omega⟩
     rw[repl_app_left (by omega)]
     have e2:(repl off c2 c1).length=sa.size:=by unfold repl;simp;omega
     cases p' with
     |nil=>simp[shP]at h3
     | cons q' p'=>
       cases q' with
       |f=>simp only[cellsP];rw[List.take_left' e2,List.take_left' e1];exact ih h0 h1 h2 h3 h4 e1
       |s=>simp only[cellsP];rw[List.drop_left' e2,List.drop_left' e1]
       |i n=>simp[shP]at h3
   | s=>
     cases s<;>try (simp[locP]at h0;done)
     rename_i sa sb
     simp only[locP,Option.map_eq_some_iff]at h0
     obtain⟨y,hy,rfl⟩:=h0
     simp only[shP]at h1
     simp only[Sh.size]at h5
     obtain⟨c1,c3,rfl,e1⟩:∃ c1 c3,cs=c1++c3∧c1.length=sa.size:=⟨cs.take sa.size,cs.drop sa.size,(List.take_append_drop _ _).symm,by rw[List.length_take];omega⟩
     have e3:c3.length=sb.size:=by rw[List.length_append]at h5;omega
     rw[←e1,repl_app_right]
     cases p' with
     |nil=>simp[shP]at h3
     | cons q' p'=>
       cases q' with
       |f=>simp only[cellsP];rw[List.take_left' e1,List.take_left' e1]
       |s=>simp only[cellsP];rw[List.drop_left' e1,List.drop_left' e1];exact ih hy h1 h2 h3 h4 e3
       |i n=>simp[shP]at h3
   |i n=>simp[locP]at h0
theorem Rep.flat {w w1:World} {fz fz1:Nat→Prop}:∀ {s:Sh} {o:O} {x y:s.den} {cs ds bs},s.flat=true→Rep w fz s o x cs bs→Rep w1 fz1 s .z y ds []→Rep w1 fz1 s o y ds []:=by
 intro s
 induction s with
 |int k=>intro o x y cs ds bs _ _ h;exact⟨rfl,h.2.1,fun _=>h.2.2 (by simp)⟩
 |bool=>intro o x y cs ds bs _ _ h;exact⟨rfl,h.2.1,fun _=>h.2.2 (by simp)⟩
 |str=>intro o x y cs ds bs _ _ h;exact⟨rfl,h.2.1,fun _=>h.2.2 (by simp)⟩
 |unit=>intro o x y cs ds bs _ _ h;exact h
 | pair a b iha ihb=>
   intro o x y cs ds bs hf h h1
   simp only[Sh.flat,Bool.and_eq_true]at hf
   cases o with
   |z=>exact h1
   |dead=>exact Rep.dead y h1.len h1.one
   |own _=>exact h.elim
   | pr oa ob=>
     obtain⟨c1,c2,b1,b2,_,_,g1,g2⟩:=h
     obtain⟨d1,d2,rfl,_,k1,k2⟩:=h1
     exact⟨d1,d2,[],[],rfl,rfl,iha hf.1 g1 k1,ihb hf.2 g2 k2⟩
 |_=>intro o x y cs ds bs hf;simp[Sh.flat]at hf
theorem Rep.flat_nil {w:World} {fz:Nat→Prop}:∀ {s:Sh} {o:O} {x:s.den} {cs bs},s.flat=true→Rep w fz s o x cs bs→bs=[]:=by
 intro s
 induction s with
 |int k=>intro o x cs bs _ h;exact h.1
 |bool=>intro o x cs bs _ h;exact h.1
 |str=>intro o x cs bs _ h;exact h.1
 |unit=>intro o x cs bs _ h;exact h.1
 | pair a b iha ihb=>
   intro o x cs bs hf h
   simp only[Sh.flat,Bool.and_eq_true]at hf
   cases o with
   |z=>exact h.z_nil
   |dead=>exact h.1
   |own _=>exact h.elim
   |pr oa ob=>obtain⟨c1,c2,b1,b2,_,rfl,g1,g2⟩:=h;rw[iha hf.1 g1,ihb hf.2 g2];rfl
 |_=>intro o x cs bs hf;simp[Sh.flat]at hf
end Go.V

