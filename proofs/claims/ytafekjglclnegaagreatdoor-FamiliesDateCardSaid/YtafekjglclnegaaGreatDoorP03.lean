import GoSem.Step
set_option linter.all false
namespace Go.Ev
open Go
inductive Cap where
 | known (n:Nat)
 | rest (k:Nat)
 deriving Inhabited
inductive AV where
 | bool (b:Bool)
 | int (k:IntKind) (n:Int)
 | str (s:List UInt8)
 | ptr (id off:Nat)
 | nilptr
 | slice (id off len:Nat) (cap:Cap)
 | nilslice
 | func (f:FuncId) (first captured:List AV)
 | nilfunc
 | iface (t:TypeId) (v:AV)
 | niliface
 | agg (cells:List AV)
 | tuple (vs:List AV)
 | map (id:Nat)
 | nilmap
 | yield (id:Nat)
 | any (v:Value)
 deriving Inhabited
def undefA:AV:=.tuple []
inductive Ts where
 | nil
 | node (v:AV) (l r:Ts)
 deriving Inhabited
def Ts.get:Ts->Nat->AV
 | .nil,_=>undefA
 | .node v l r,i=>bif Nat.beq i 0 then v else bif Nat.beq (i%2) 1 then l.get (i/2) else r.get (i/2-1)
def Ts.val:Ts->AV
 | .nil=>undefA
 | .node v _ _=>v
def Ts.left:Ts->Ts
 | .nil=>.nil
 | .node _ l _=>l
def Ts.right:Ts->Ts
 | .nil=>.nil
 | .node _ _ r=>r
def Ts.set:Nat->Ts->Nat->AV->Ts
 | 0,t,_,_=>t
 | d+1,t,i,v=>bif Nat.beq i 0 then .node v t.left t.right
   else bif Nat.beq (i%2) 1 then .node t.val (Ts.set d t.left (i/2) v) t.right else .node t.val t.left (Ts.set d t.right (i/2-1) v)
def Ts.ofList (i:Nat) (t:Ts):List AV->Ts
 | []=>t
 | v::vs=>Ts.ofList (i+1) (Ts.set 20 t i v) vs
structure ALoop where
 state:LoopState
 pend:Option Code
 ts:Ts
 tn:Nat
 params:Array Tmp
 assign:Code
 body:Code
 defs:Nat
inductive AObj where
 | cells (cs:List AV) (rw:Bool) (grow:Option Nat)
 | map (es:List (AV×AV))
 | siter (s:List UInt8) (pos:Nat)
 | loop (r:ALoop)
 | defs
 | dead
 deriving Inhabited
structure Own where
 n:Nat
 os:List AObj
 le:List (Nat×AObj)
 deriving Inhabited
structure Ctx where
 B:List (Nat×Own)
 lo:Nat
def ob {α β:Type} (x:Option α) (f:α->Option β):Option β:=match x with
 | none=>none
 | some a=>f a
def ok {α:Type} (b:Bool) (x:Option α):Option α:=bif b then x else none
def setO:List AObj->Nat->AObj->List AObj
 | [],_,_=>[]
 | _::os,0,x=>x::os
 | y::os,n+1,x=>y::setO os n x
def Own.at (o:Own) (i:Nat):AObj:=o.os.getD (o.n-1-i) .dead
def Own.put (o:Own) (i:Nat) (x:AObj):Own:=⟨o.n,setO o.os (o.n-1-i) x,o.le⟩
def Own.push (o:Own) (x:AObj):Own:=⟨o.n+1,x::o.os,o.le⟩
def leAt:List (Nat×AObj)->Nat->Option AObj
 | [],_=>none
 | p::rest,id=>bif Nat.beq p.1 id then some p.2 else leAt rest id
def lePut:List (Nat×AObj)->Nat->AObj->List (Nat×AObj)
 | [],_,_=>[]
 | p::rest,id,x=>bif Nat.beq p.1 id then (id,x)::rest else p::lePut rest id x
def Own.next (C:Ctx) (o:Own):Nat:=C.lo+o.n
def getB:List (Nat×Own)->Nat->AObj
 | [],_=>.dead
 | p::rest,id=>bif Nat.ble p.1 id then p.2.at (id-p.1) else match leAt p.2.le id with
   | some x=>x
   | none=>getB rest id
def get (C:Ctx) (o:Own) (id:Nat):AObj:=getB ((C.lo,o)::C.B) id
def own? (C:Ctx) (o:Own) (id:Nat):Option AObj:=bif Nat.ble C.lo id then some (o.at (id-C.lo)) else leAt o.le id
def putO (C:Ctx) (o:Own) (id:Nat) (x:AObj):Own:=bif Nat.ble C.lo id then o.put (id-C.lo) x else ⟨o.n,o.os,lePut o.le id x⟩
def cellsA:AV->List AV
 | .agg cs=>cs
 | .any v=>v.cells.toList.map .any
 | v=>[v]
def oneA:AV->Bool
 | .agg _|.tuple _|.any _=>false
 | _=>true
def absS:Value->Option AV
 | .bool b=>some (.bool b)
 | .int k n=>some (.int k n)
 | .string s=>some (.str s.data.toList)
 | .pointer none=>some .nilptr
 | .slice none 0 0=>some .nilslice
 | .map none=>some .nilmap
 | .nilFunc=>some .nilfunc
 | .nilIface=>some .niliface
 | _=>none
def absL:List Value->Option (List AV)
 | []=>some []
 | v::vs=>ob (absS v) fun a=>ob (absL vs) fun as=>some (a::as)
def absV:Value->Option AV
 | .agg cs=>ob (absL cs.toList) fun as=>some (.agg as)
 | v=>absS v
def ctorK:IntKind->Nat
 | .i8=>0|.i16=>1|.i32=>2|.i64=>3|.u8=>4|.u16=>5|.u32=>6|.u64=>7
def sameK (a b:IntKind):Bool:=Nat.beq (ctorK a) (ctorK b)
def natLt (a b:Nat):Bool:=Nat.ble (a+1) b
def intLe:Int->Int->Bool
 | .ofNat a,.ofNat b=>Nat.ble a b
 | .negSucc _,.ofNat _=>true
 | .ofNat _,.negSucc _=>false
 | .negSucc a,.negSucc b=>Nat.ble b a
def intEq:Int->Int->Bool
 | .ofNat a,.ofNat b=>Nat.beq a b
 | .negSucc a,.negSucc b=>Nat.beq a b
 | _,_=>false
def boolEq:Bool->Bool->Bool
 | true,b=>b
 | false,b=>!b
def loK:IntKind->Int
 | .i8=>-128|.i16=>-32768|.i32=>-2147483648|.i64=>-9223372036854775808
 | _=>0
def hiK:IntKind->Int
 | .i8=>127|.i16=>32767|.i32=>2147483647|.i64=>9223372036854775807
 | .u8=>255|.u16=>65535|.u32=>4294967295|.u64=>18446744073709551615
def wrapA (k:IntKind) (n:Int):Int:=bif intLe (loK k) n&&intLe n (hiK k) then n else k.wrap n
def outN (k:IntKind) (c:Nat->Int):Nat->AV
 | 0=>.int k (c 0)
 | m+1=>.int k (c (m+1))
def outI (k:IntKind):Int->AV
 | .ofNat n=>outN k .ofNat n
 | .negSucc n=>outN k .negSucc n
def mkInt (k:IntKind) (n:Int):Option AV:=some (outI k (wrapA k n))
def goInt (n:Nat):AV:=outN .i64 .ofNat n
def takeA (cs:List AV) (off n:Nat):Option (List AV):=ok (Nat.beq ((cs.drop off).take n).length n) (some ((cs.drop off).take n))
def overA:List AV->List AV->Option (List AV)
 | cs,[]=>some cs
 | [],_::_=>none
 | _::cs,v::vs=>ob (overA cs vs) fun r=>some (v::r)
def layA:List AV->Nat->List AV->Option (List AV)
 | cs,0,vs=>overA cs vs
 | [],_+1,_=>none
 | c::cs,n+1,vs=>ob (layA cs n vs) fun r=>some (c::r)
def fillA (place:Nat->Option (Nat×Nat)) (cells:List AV):List (Nat×AV)->Option (List AV)
 | []=>some cells
 | p::rest=>ob (place p.1) fun q=>ok (Nat.beq (cellsA p.2).length q.2) (ob (layA cells q.1 (cellsA p.2)) fun r=>fillA place r rest)
def repA (zero:List AV):Nat->List AV
 | 0=>[]
 | n+1=>zero++repA zero n
def bytesEq:List UInt8->List UInt8->Bool
 | [],[]=>true
 | a::x,b::y=>Nat.beq a.toNat b.toNat&&bytesEq x y
 | _,_=>false
def bytesLt:List UInt8->List UInt8->Bool
 | _,[]=>false
 | [],_::_=>true
 | a::x,b::y=>natLt a.toNat b.toNat || (Nat.beq a.toNat b.toNat&&bytesLt x y)
inductive Tb (α:Type) where
 | nil
 | node (v:Option α) (l r:Tb α)
def Tb.get {α:Type}:Tb α->Nat->Option α
 | .nil,_=>none
 | .node v l r,i=>bif Nat.beq i 0 then v else bif Nat.beq (i%2) 1 then l.get (i/2) else r.get (i/2-1)
structure TE where
 i:TypeInfo
 u:TypeDesc
 guard:Bool
 stood:Bool
structure Tab where
 ty:Tb TE
 fn:Tb Func
section
variable (P:Tab)
def Tab.und (t:TypeId):Option TypeDesc:=ob (P.ty.get t) fun e=>some e.u
def Tab.inf (t:TypeId):Option TypeInfo:=ob (P.ty.get t) fun e=>some e.i
def szOf (t:TypeId):Option Nat:=ob (P.ty.get t) fun e=>some e.i.size
def aggD:Option TypeDesc->Bool
 | some (.struct _)|some (.array _ _)=>true
 | _=>false
def zeroA (t:TypeId):Option AV:=ob (P.inf t) fun i=>ob i.zero absV
def elemD:Option TypeDesc->Option TypeId
 | some (.slice e)=>some e
 | _=>none
def elemT (t:TypeId):Option TypeId:=elemD (P.und t)
def arrD:Option TypeDesc->Option (Nat×TypeId)
 | some (.array n e)=>some (n,e)
 | _=>none
def arrT (t:TypeId):Option (Nat×TypeId):=arrD (P.und t)
def structD:Option TypeDesc->Option (Array Field)
 | some (.struct fs)=>some fs
 | _=>none
def structT (t:TypeId):Option (Array Field):=structD (P.und t)
def intD:Option TypeDesc->Option IntKind
 | some (.int k)=>some k
 | _=>none
def intT (t:TypeId):Option IntKind:=intD (P.und t)
def strD:Option TypeDesc->Bool
 | some .string=>true
 | _=>false
def strT (t:TypeId):Bool:=strD (P.und t)
def boolD:Option TypeDesc->Bool
 | some .bool=>true
 | _=>false
def ifaceD:Option TypeDesc->Bool
 | some (.interface _)=>true
 | _=>false
def mapD:Option TypeDesc->Option (TypeId×TypeId)
 | some (.map k e)=>some (k,e)
 | _=>none
def keyD (k:AV):Option TypeDesc->Bool
 | some (.int _)=>match k with
   | .int _ _=>true
   | _=>false
 | some .string=>match k with
   | .str _=>true
   | _=>false
 | some .bool=>match k with
   | .bool _=>true
   | _=>false
 | _=>false
def partA (t:TypeId) (cs:List AV) (off:Nat):Option AV:=
 ob (P.und t) fun d=>bif aggD (some d) then ob (szOf P t) fun n=>ob (takeA cs off n) fun r=>some (.agg r) else cs[off]?
def eqFieldsA (cmp:TypeId->AV->AV->Option Bool) (xs ys:List AV):List Field->Option Bool
 | []=>some true
 | f::fs=>ok (!(f.name == "_")) (ob (partA P f.type xs f.offset) fun a=>ob (partA P f.type ys f.offset) fun b=>ob (cmp f.type a b) fun r=>
   bif r then eqFieldsA cmp xs ys fs else some false)
def eqElemsA (cmp:AV->AV->Option Bool) (elem:TypeId) (n:Nat) (xs ys:List AV) (i:Nat):Nat->Option Bool
 | 0=>some true
 | k+1=>ob (partA P elem xs (i*n)) fun a=>ob (partA P elem ys (i*n)) fun b=>ob (cmp a b) fun r=>
   bif r then eqElemsA cmp elem n xs ys (i+1) k else some false
def isNilA:AV->Bool
 | .nilptr|.nilslice|.nilmap|.nilfunc|.niliface=>true
 | _=>false
def kindA:AV->Nat
 | .nilptr|.ptr ..=>1
 | .nilslice|.slice ..=>2
 | .nilmap|.map _=>3
 | .nilfunc|.func ..=>4
 | .niliface|.iface ..=>5
 | _=>0
def kindD:Option TypeDesc->Nat
 | some (.pointer _)=>1
 | some (.slice _)=>2
 | some (.map _ _)=>3
 | some (.func ..)=>4
 | some (.interface _)=>5
 | _=>9
def eqNil (d:Option TypeDesc) (x y:AV):Option Bool:=
 ok (Nat.beq (kindA x) (kindD d)&&Nat.beq (kindA y) (kindD d)&&(isNilA x || isNilA y)) (some (isNilA x&&isNilA y))
def eqBoolA (t:TypeId) (a:Bool):AV->Option Bool
 | .bool b=>ok (boolD (P.und t)) (some (boolEq a b))
 | _=>none
def eqIntA (t:TypeId) (k:IntKind) (a:Int):AV->Option Bool
 | .int k' b=>ok ((intT P t).isSome&&sameK k k') (some (intEq a b))
 | _=>none
def eqStrA (t:TypeId) (a:List UInt8):AV->Option Bool
 | .str b=>ok (strT P t) (some (bytesEq a b))
 | _=>none
def eqAggD (cmp:TypeId->AV->AV->Option Bool) (t:TypeId) (xs ys:List AV):Option TypeDesc->Option Bool
 | some (.struct fields)=>ob (P.ty.get t) fun e=>ok (!e.stood) (eqFieldsA P cmp xs ys fields.toList)
 | some (.array len elem)=>ob (szOf P elem) fun n=>eqElemsA P (cmp elem) elem n xs ys 0 len
 | _=>none
def eqAggA (cmp:TypeId->AV->AV->Option Bool) (t:TypeId) (xs:List AV):AV->Option Bool
 | .agg ys=>eqAggD P cmp t xs ys (P.und t)
 | _=>none
def eqIfaceA (cmp:TypeId->AV->AV->Option Bool) (t a:TypeId) (u:AV) (y:AV):Option Bool:=match y with
 | .iface b v=>ok (ifaceD (P.und t)) (bif Nat.beq a b then ob (P.inf a) fun i=>ok i.comparable (cmp a u v) else some false)
 | y=>eqNil (P.und t) (.iface a u) y
def eqH (cmp:TypeId->AV->AV->Option Bool) (t:TypeId) (x y:AV):Option Bool:=match x with
 | .bool a=>eqBoolA P t a y
 | .int k a=>eqIntA P t k a y
 | .str a=>eqStrA P t a y
 | .agg xs=>eqAggA P cmp t xs y
 | .iface a u=>eqIfaceA P cmp t a u y
 | x=>eqNil (P.und t) x y
def eqA:Nat->TypeId->AV->AV->Option Bool
 | 0,_,_,_=>none
 | d+1,t,x,y=>eqH P (eqA d) t x y
end
def evalA (G:Nat) (ts:Ts):Operand->Option AV
 | .tmp t=>some (ts.get t)
 | .const v=>absV v
 | .global g=>ok (natLt g G) (some (.ptr g 0))
 | .func f=>some (.func f [] [])
def isConstO:Operand->Bool
 | .const _=>true
 | _=>false
def cmpA (op:BinOp) (lt eq:Bool):Option AV:=match op with
 | .eql=>some (.bool eq)
 | .neq=>some (.bool !eq)
 | .lss=>some (.bool lt)
 | .leq=>some (.bool (lt || eq))
 | .gtr=>some (.bool !(lt || eq))
 | .geq=>some (.bool !lt)
 | _=>none
abbrev BinF:Type:=IntKind->Int->Int->Option AV
def bAnd:BinF:=fun k x y=>mkInt k (BitVec.ofInt k.bits x &&& BitVec.ofInt k.bits y).toNat
def bOr:BinF:=fun k x y=>mkInt k (BitVec.ofInt k.bits x ||| BitVec.ofInt k.bits y).toNat
def bXor:BinF:=fun k x y=>mkInt k (BitVec.ofInt k.bits x ^^^ BitVec.ofInt k.bits y).toNat
def bAndNot:BinF:=fun k x y=>mkInt k (BitVec.ofInt k.bits x &&& ~~~BitVec.ofInt k.bits y).toNat
def bAdd:BinF:=fun k a b=>mkInt k (Int.add a b)
def bSub:BinF:=fun k a b=>mkInt k (Int.sub a b)
def bMul:BinF:=fun k a b=>mkInt k (Int.mul a b)
def bQuo:BinF:=fun k a b=>ok (!(intEq b 0)) (mkInt k (Int.tdiv a b))
def bRem:BinF:=fun k a b=>ok (!(intEq b 0)) (some (outI k (Int.tmod a b)))
def bEql:BinF:=fun _ a b=>some (.bool (intEq a b))
def bNeq:BinF:=fun _ a b=>some (.bool !(intEq a b))
def bLss:BinF:=fun _ a b=>some (.bool !(intLe b a))
def bLeq:BinF:=fun _ a b=>some (.bool (intLe a b))
def bGtr:BinF:=fun _ a b=>some (.bool !(intLe a b))
def bGeq:BinF:=fun _ a b=>some (.bool (intLe b a))
def bNone:BinF:=fun _ _ _=>none
def binSel:BinOp->BinF
 | .add=>bAdd
 | .sub=>bSub
 | .mul=>bMul
 | .quo=>bQuo
 | .rem=>bRem
 | .and=>bAnd
 | .or=>bOr
 | .xor=>bXor
 | .andNot=>bAndNot
 | .eql=>bEql
 | .neq=>bNeq
 | .lss=>bLss
 | .leq=>bLeq
 | .gtr=>bGtr
 | .geq=>bGeq
 | .shl=>bNone
 | .shr=>bNone
def shiftN (y:Int) (k:IntKind):Nat:=min y.toNat k.bits
def isShift:BinOp->Bool
 | .shl|.shr=>true
 | _=>false
def shiftA (op:BinOp) (k:IntKind) (a b:Int):Option AV:=ok (intLe 0 b) (match op with
 | .shl=>mkInt k (a*2^shiftN b k)
 | .shr=>some (outI k (a.fdiv (2^shiftN b k)))
 | _=>none)
def binI (op:BinOp) (k:IntKind) (a:Int):AV->Option AV
 | .int k' b=>bif isShift op then shiftA op k a b else ok (sameK k k') (binSel op k a b)
 | _=>none
def binS (op:BinOp) (a:List UInt8):AV->Option AV
 | .str b=>match op with
   | .add=>ok (Nat.ble (a.length+b.length) 1000000) (some (.str (a++b)))
   | op=>cmpA op (bytesLt a b) (bytesEq a b)
 | _=>none
def eqlA (op:BinOp) (r:Option Bool):Option AV:=match op with
 | .eql=>ob r fun b=>some (.bool b)
 | .neq=>ob r fun b=>some (.bool !b)
 | _=>none
section
variable (P:Tab)
def notAny:AV->Bool
 | .any _=>false
 | _=>true
def guardA (t:TypeId) (xo yo:Operand) (x y:AV):Bool:=notAny x&&(notAny y&&match x with
 | .agg _=>(ob (P.ty.get t) fun e=>some (aggD (some e.u)&&!e.guard)).getD false
 | .niliface=>match y with
   | .niliface=>isConstO xo || isConstO yo
   | _=>true
 | _=>true)
def binA (op:BinOp) (t:TypeId) (xo yo:Operand) (x y:AV):Option AV:=match x with
 | .int k a=>binI op k a y
 | .str a=>binS op a y
 | x=>eqlA op (ok (guardA P t xo yo x y) (eqA P 100 t x y))
def unA (op:UnOp) (x:AV):Option AV:=match x with
 | .int k n=>match op with
   | .neg=>mkInt k (Int.sub 0 n)
   | .xor=>bXor k (if k.signed then -1 else k.max) n
   | _=>none
 | .bool b=>match op with
   | .not=>some (.bool !b)
   | _=>none
 | _=>none
def cellsOf:AObj->Option (List AV)
 | .cells cs _ _=>some cs
 | _=>none
def readA (C:Ctx) (o:Own) (id off n:Nat):Option (List AV):=ob (cellsOf (get C o id)) fun cs=>takeA cs off n
def loadA (C:Ctx) (o:Own) (t:TypeId):AV->Option AV
 | .ptr id off=>ob (cellsOf (get C o id)) fun cs=>partA P t cs off
 | _=>none
def layObj (off:Nat) (vs:List AV):AObj->Option AObj
 | .cells cs true g=>ob (layA cs off vs) fun cs'=>some (.cells cs' true g)
 | _=>none
def writeA (C:Ctx) (o:Own) (id off:Nat) (vs:List AV):Option Own:=ob (own? C o id) fun x=>ob (layObj off vs x) fun x'=>some (putO C o id x')
def allOne:List AV->Bool
 | []=>true
 | v::vs=>oneA v&&allOne vs
def storeA (C:Ctx) (o:Own) (t:TypeId) (v:AV):AV->Option Own
 | .ptr id off=>ob (szOf P t) fun n=>ok (Nat.beq (cellsA v).length n&&allOne (cellsA v)) (writeA C o id off (cellsA v))
 | _=>none
def natA (hi:Nat):AV->Option Nat
 | .int _ (.ofNat n)=>ok (Nat.ble n hi) (some n)
 | _=>none
def boundA (most:Nat) (dflt:Nat):Option AV->Option Nat
 | none=>some dflt
 | some v=>natA most v
def capSlice (id off size m h l:Nat):AV:=bif Nat.beq m l then .slice id off (h-l) (.known (m-l)) else .slice id (off+l*size) (h-l) (.known (m-l))
def sliceStr (s:List UInt8) (lo hi:Option AV):Option AV:=ob (boundA s.length s.length hi) fun h=>ob (boundA h 0 lo) fun l=>some (.str ((s.take h).drop l))
def sliceNil (lo hi max:Option AV):Option AV:=ok (max.isNone || hi.isSome) (ob (boundA 0 0 max) fun _=>ob (boundA 0 0 hi) fun _=>ob (boundA 0 0 lo) fun _=>some .nilslice)
def sliceKnown (size id off len c:Nat) (lo hi max:Option AV):Option AV:=
 ok (max.isNone || hi.isSome) (ob (boundA c c max) fun m=>ob (boundA m len hi) fun h=>ob (boundA h 0 lo) fun l=>some (capSlice id off size m h l))
def restSlice (size id off k h l:Nat):Option AV:=
 bif Nat.beq l 0 then some (.slice id off h (.rest k)) else ok (natLt l h) (some (.slice id (off+l*size) (h-l) (.rest (k+l))))
def sliceRest (size id off len k:Nat) (lo hi:Option AV):Option AV:=ob (boundA len len hi) fun h=>ob (boundA h 0 lo) fun l=>restSlice size id off k h l
def sliceRestMax (size id off len:Nat) (lo hi:Option AV) (mx:AV):Option AV:=
 ok hi.isSome (ob (natA len mx) fun m=>ob (boundA m len hi) fun h=>ob (boundA h 0 lo) fun l=>some (capSlice id off size m h l))
def sliceCap (size id off len:Nat) (lo hi max:Option AV):Cap->Option AV
 | .known c=>sliceKnown size id off len c lo hi max
 | .rest k=>match max with
   | none=>sliceRest size id off len k lo hi
   | some mx=>sliceRestMax size id off len lo hi mx
def lenA:AV->Option Nat
 | .slice _ _ n _=>some n
 | .nilslice=>some 0
 | .str s=>some s.length
 | _=>none
def byteA (b:UInt8):AV:=.int .u8 (.ofNat b.toNat)
def firstA (C:Ctx) (o:Own) (size n:Nat):AV->Option (List AV)
 | .slice id off len _=>ok (Nat.ble n len) (readA C o id off (n*size))
 | .nilslice=>ok (Nat.beq n 0) (some [])
 | .str s=>ok (Nat.ble n s.length) (some ((s.take n).map byteA))
 | _=>none
def growA (C:Ctx) (o:Own) (size n:Nat) (cs:List AV):AV×Own:=(.slice (o.next C) 0 n (.rest 0),o.push (.cells cs true (some size)))
def sameGrow (size n:Nat):AObj->Option (List AV)
 | .cells cs true (some g)=>ok (Nat.beq g size&&Nat.beq cs.length n) (some cs)
 | _=>none
def appendKnown (C:Ctx) (o:Own) (size n id off len c:Nat) (new:List AV):Option (AV×Own):=
 bif Nat.ble (len+n) c then ob (writeA C o id (off+len*size) new) fun o'=>some (.slice id off (len+n) (.known c),o')
 else ob (readA C o id off (len*size)) fun old=>some (growA C o size (len+n) (old++new))
def appendRest (C:Ctx) (o:Own) (size n id off len k:Nat) (new:List AV):Option (AV×Own):=
 ok (Nat.beq off 0&&Nat.beq k 0) (ob (own? C o id) fun x=>ob (sameGrow size (len*size) x) fun cs=>some (growA C (putO C o id .dead) size (len+n) (cs++new)))
def appendCap (C:Ctx) (o:Own) (size n id off len:Nat) (new:List AV):Cap->Option (AV×Own)
 | .known c=>appendKnown C o size n id off len c new
 | .rest k=>appendRest C o size n id off len k new
def appendTo (C:Ctx) (o:Own) (size n:Nat) (new:List AV):AV->Option (AV×Own)
 | .nilslice=>some (growA C o size n new)
 | .slice id off len c=>appendCap C o size n id off len new c
 | _=>none
def isSliceA:AV->Bool
 | .nilslice|.slice ..=>true
 | _=>false
def fitsA:AV->Bool
 | .slice _ _ len (.known c)=>Nat.ble len c
 | _=>true
def strFits (size:Nat):AV->Bool
 | .str _=>Nat.beq size 1
 | _=>true
def lenOk (sl n size:Nat):Bool:=Nat.ble (sl+n) 1000000&&natLt 0 size&&Nat.ble size 1000
def smallT (t:TypeId):Bool:=match P.inf t with
 | some i=>Nat.ble i.bytes 100000
 | none=>false
def notIntT (t:TypeId):Bool:=match P.und t with
 | some (.int _)=>false
 | some _=>true
 | none=>false
def appendA (C:Ctx) (o:Own) (sType xType:TypeId) (s x:AV):Option (AV×Own):=
 ob (elemT P sType) fun elem=>ok (notIntT P xType&&smallT P elem&&isSliceA s) (ob (szOf P elem) fun size=>ob (zeroA P elem) fun z=>ob (lenA x) fun n=>ob (lenA s) fun sl=>
  bif Nat.beq n 0 then ok (fitsA s) (some (s,o)) else ok (lenOk sl n size&&Nat.beq (cellsA z).length size&&strFits size x) (ob (firstA C o size n x) fun new=>ok (allOne new) (appendTo C o size n new s)))
def foldInt (f:Int->Int->Int) (k:IntKind) (acc:Int):List AV->Option AV
 | []=>some (.int k acc)
 | .int _ y::rest=>foldInt f k (f acc y) rest
 | _::_=>none
def minI (x y:Int):Int:=bif intLe x y then x else y
def maxI (x y:Int):Int:=bif intLe y x then x else y
def lenD (x:AV):Option TypeDesc->Option AV
 | some .string=>match x with
   | .str s=>some (goInt s.length)
   | _=>none
 | some (.slice _)=>match x with
   | .slice _ _ n _=>some (goInt n)
   | .nilslice=>some (goInt 0)
   | _=>none
 | some (.array n _)=>some (goInt n)
 | _=>none
def capD (x:AV):Option TypeDesc->Option AV
 | some (.slice _)=>match x with
   | .slice _ _ _ (.known n)=>some (goInt n)
   | .nilslice=>some (goInt 0)
   | _=>none
 | _=>none
def minN (a b:Nat):Nat:=bif Nat.ble a b then a else b
def copyTo (C:Ctx) (o:Own) (n:Nat) (cs:List AV):AV->Option (AV×Own)
 | .nilslice=>some (goInt n,o)
 | .slice id off _ _=>ok (allOne cs) (ob (writeA C o id off cs) fun o'=>some (goInt n,o'))
 | _=>none
def copyA (C:Ctx) (o:Own) (dType:TypeId) (d s:AV):Option (AV×Own):=
 ob (elemT P dType) fun elem=>ok (isSliceA d) (ob (szOf P elem) fun size=>ob (lenA d) fun dl=>ob (lenA s) fun sl=>
  ob (firstA C o size (minN sl dl) s) fun cs=>copyTo C o (minN sl dl) cs d)
def keep (o:Own) (x:Option AV):Option (AV×Own):=ob x fun v=>some (v,o)
def fold1 (f:Int->Int->Int):List AV->Option AV
 | .int k x::rest=>foldInt f k x rest
 | _=>none
def two (f:AV->AV->Option (AV×Own)):List AV->Option (AV×Own)
 | [a,b]=>f a b
 | _=>none
def one (f:AV->Option AV):List AV->Option AV
 | [a]=>f a
 | _=>none
def builtinA (C:Ctx) (o:Own) (b:Builtin) (ts:List TypeId) (args:List AV):Option (AV×Own):=match b with
 | .len=>keep o (ob ts[0]? fun t=>one (fun x=>lenD x (P.und t)) args)
 | .cap=>keep o (ob ts[0]? fun t=>one (fun x=>capD x (P.und t)) args)
 | .append=>ob ts[0]? fun t=>ob ts[1]? fun u=>two (fun s x=>appendA P C o t u s x) args
 | .copy=>ob ts[0]? fun t=>two (fun d s=>copyA P C o t d s) args
 | .min=>keep o (fold1 minI args)
 | .max=>keep o (fold1 maxI args)
 | _=>none
def keyEq (x:AV):AV->Option Bool
 | .int k b=>match x with
   | .int k' a=>ok (sameK k' k) (some (intEq a b))
   | _=>none
 | .str b=>match x with
   | .str a=>some (bytesEq a b)
   | _=>none
 | .bool b=>match x with
   | .bool a=>some (boolEq a b)
   | _=>none
 | _=>none
def findA (k:AV):List (AV×AV)->Option (Option AV)
 | []=>some none
 | e::es=>ob (keyEq k e.1) fun r=>bif r then some (some e.2) else findA k es
def entriesOf:AObj->Option (List (AV×AV))
 | .map es=>some es
 | _=>none
def setE (k v:AV):List (AV×AV)->Option (List (AV×AV))
 | []=>none
 | e::es=>ob (keyEq k e.1) fun r=>bif r then some ((k,v)::es) else ob (setE k v es) fun es'=>some (e::es')
def insertA (C:Ctx) (o:Own) (k v:AV):AV->Option (AV×Own)
 | .map id=>ob (own? C o id) fun x=>ob (entriesOf x) fun es=>ob (findA k es) fun r=>match r with
   | none=>some (undefA,putO C o id (.map (es++[(k,v)])))
   | some _=>ob (setE k v es) fun es'=>some (undefA,putO C o id (.map es'))
 | _=>none
def answerA (ok:Bool) (v:AV) (there:Bool):AV:=bif ok then .tuple [v,.bool there] else v
def lookupA (C:Ctx) (o:Own) (elem:TypeId) (ok:Bool) (k:AV):AV->Option AV
 | .map id=>ob (entriesOf (get C o id)) fun es=>ob (findA k es) fun r=>match r with
   | some v=>some (answerA ok v true)
   | none=>ob (zeroA P elem) fun z=>some (answerA ok z false)
 | _=>none
def mapAll (ρ:Operand->Option AV):List Operand->Option (List AV)
 | []=>some []
 | x::xs=>ob (ρ x) fun v=>ob (mapAll ρ xs) fun vs=>some (v::vs)
def partsA (ρ:Operand->Option AV):List (Nat×Operand)->Option (List (Nat×AV))
 | []=>some []
 | p::xs=>ob (ρ p.2) fun v=>ob (partsA ρ xs) fun vs=>some ((p.1,v)::vs)
def optA (ρ:Operand->Option AV):Option Operand->Option (Option AV)
 | none=>some none
 | some x=>ob (ρ x) fun v=>some (some v)
def fieldPlaceA (fields:Array Field) (i:Nat):Option (Nat×Nat):=ob fields[i]? fun f=>ob (szOf P f.type) fun n=>some (f.offset,n)
def placesA:List Field->Option (List (Nat×Nat))
 | []=>some []
 | f::fs=>ob (szOf P f.type) fun n=>ob (placesA fs) fun r=>some ((f.offset,n)::r)
def pickV (a b:Option AV):AV->Option AV
 | .bool true=>a
 | .bool false=>b
 | _=>none
def allocV (C:Ctx) (o:Own) (v:AV):Option (AV×Own):=ok (allOne (cellsA v)) (some (.ptr (o.next C) 0,o.push (.cells (cellsA v) true none)))
def buildD (z:List AV) (ps:List (Nat×AV)):Option TypeDesc->Option AV
 | some (.struct fields)=>ob (placesA P fields.toList) fun pl=>ob (fillA (fun i=>pl[i]?) z ps) fun cs=>some (.agg cs)
 | some (.array _ elem)=>ob (szOf P elem) fun n=>ob (fillA (fun i=>some (i*n,n)) z ps) fun cs=>some (.agg cs)
 | _=>none
def buildA (ρ:Operand->Option AV) (t:TypeId) (parts:List (Nat×Operand)):Option AV:=
 ob (zeroA P t) fun z=>ob (partsA ρ parts) fun ps=>buildD P (cellsA z) ps (P.und t)
def buildSliceA (C:Ctx) (ρ:Operand->Option AV) (o:Own) (t:TypeId) (len:Nat) (parts:List (Nat×Operand)):Option (AV×Own):=
 ob (elemT P t) fun elem=>ob (szOf P elem) fun n=>ob (zeroA P elem) fun z=>ob (partsA ρ parts) fun ps=>
  ok (Nat.ble (len*n) 10000&&Nat.beq (cellsA z).length n&&natLt 0 n) (ob (fillA (fun i=>some (i*n,n)) (repA (cellsA z) len) ps) fun cs=>
   ok (allOne cs) (some (.slice (o.next C) 0 len (.known len),o.push (.cells cs true none))))
def makeSliceA (C:Ctx) (o:Own) (t:TypeId) (l c:AV):Option (AV×Own):=
 ob (elemT P t) fun elem=>ob (szOf P elem) fun n=>ob (zeroA P elem) fun z=>ob (natA 10000 c) fun cn=>ob (natA cn l) fun ln=>
  ok (Nat.beq (cellsA z).length n&&natLt 0 n&&Nat.ble n 10000&&smallT P elem&&allOne (cellsA z))
   (some (.slice (o.next C) 0 ln (.known cn),o.push (.cells (repA (cellsA z) cn) true none)))
def convInt (n:Int):Option TypeDesc->Option AV
 | some (.int k)=>mkInt k n
 | some .string=>some (.str (Utf8.encode n).data.toList)
 | _=>none
def isByteD:Option TypeDesc->Bool
 | some (.int .u8)=>true
 | _=>false
def convStr (C:Ctx) (o:Own) (s:List UInt8):Option TypeDesc->Option (AV×Own)
 | some .string=>some (.str s,o)
 | some (.slice e)=>ok (isByteD (P.und e)&&Nat.ble s.length 1000000) (some (.slice (o.next C) 0 s.length (.rest 0),o.push (.cells (s.map byteA) false none)))
 | _=>none
def byteOf:AV->Option UInt8
 | .int .u8 (.ofNat n)=>ok (natLt n 256) (some (UInt8.ofNat n))
 | _=>none
def bytesOfA:List AV->Option (List UInt8)
 | []=>some []
 | v::rest=>ob (byteOf v) fun b=>ob (bytesOfA rest) fun s=>some (b::s)
def convSlice (C:Ctx) (o:Own) (id off len:Nat) (src dst:Option TypeDesc):Option AV:=
 ob (elemD src) fun e=>ok (isByteD (P.und e)&&strD dst) (ob (readA C o id off len) fun cs=>ob (bytesOfA cs) fun s=>some (.str s))
def convertA (C:Ctx) (o:Own) (src dst:TypeId):AV->Option (AV×Own)
 | .int _ n=>ok (P.und src).isSome (keep o (convInt n (P.und dst)))
 | .str s=>ok (strD (P.und src)) (convStr P C o s (P.und dst))
 | .slice id off len _=>keep o (convSlice P C o id off len (P.und src) (P.und dst))
 | _=>none
def makeIfaceA (t:TypeId) (v:AV):Option AV:=match P.und t with
 | some (.interface _)=>none
 | some _=>some (.iface t v)
 | none=>none
def sliceOf (t:TypeId) (lo hi mx:Option AV):AV->Option AV
 | .ptr id off=>ob (arrT P t) fun ne=>ob (szOf P ne.2) fun size=>sliceKnown size id off ne.1 ne.1 lo hi mx
 | .str s=>ok (strT P t&&mx.isNone) (sliceStr s lo hi)
 | .nilslice=>ob (elemT P t) fun e=>ob (szOf P e) fun _=>sliceNil lo hi mx
 | .slice id off len c=>ob (elemT P t) fun e=>ob (szOf P e) fun size=>sliceCap size id off len lo hi mx c
 | _=>none
def ptrAdd (n:Nat):AV->Option AV
 | .ptr id off=>some (.ptr id (off+n))
 | _=>none
def fieldAddrA (s:TypeId) (f:Nat) (x:AV):Option AV:=ob (structT P s) fun fields=>ob (fieldPlaceA P fields f) fun q=>ok (natLt 0 q.2) (ptrAdd q.1 x)
def fieldA (s:TypeId) (f:Nat):AV->Option AV
 | .agg cs=>ob (structT P s) fun fields=>ob fields[f]? fun fd=>partA P fd.type cs fd.offset
 | _=>none
def idxA:AV->Option Nat
 | .int _ (.ofNat i)=>some i
 | _=>none
def indexAddrA (t:TypeId) (i:Nat):AV->Option AV
 | .ptr id off=>ob (arrT P t) fun ne=>ok (natLt i ne.1) (ob (szOf P ne.2) fun n=>some (.ptr id (off+i*n)))
 | .slice id off len _=>ob (elemT P t) fun e=>ok (natLt i len) (ob (szOf P e) fun n=>some (.ptr id (off+i*n)))
 | _=>none
def indexA (t:TypeId) (i:Nat):AV->Option AV
 | .agg cs=>ob (arrT P t) fun ne=>ok (natLt i ne.1) (ob (szOf P ne.2) fun n=>partA P ne.2 cs (i*n))
 | .str s=>ok (strT P t) (ob s[i]? fun b=>some (byteA b))
 | _=>none
def mapUpA (C:Ctx) (o:Own) (t:TypeId) (m k v:AV):Option (AV×Own):=
 ob (mapD (P.und t)) fun ke=>ok (keyD k (P.und ke.1)) (insertA C o k v m)
def lookA (C:Ctx) (o:Own) (t:TypeId) (okv:Bool) (m k:AV):Option AV:=
 ob (mapD (P.und t)) fun ke=>ok (keyD k (P.und ke.1)) (lookupA P C o ke.2 okv k m)
def rangeA (C:Ctx) (o:Own) (t:TypeId):AV->Option (AV×Own)
 | .str s=>ok (strT P t) (some (.ptr (o.next C) 0,o.push (.siter s 0)))
 | _=>none
def nextS (C:Ctx) (o:Own) (id:Nat) (s:List UInt8) (pos:Nat):AV×Own:=
 bif natLt pos s.length then (.tuple [.bool true,goInt pos,outN .i32 .ofNat (Utf8.decode ⟨⟨s⟩⟩ pos).1],putO C o id (.siter s (pos+(Utf8.decode ⟨⟨s⟩⟩ pos).2)))
 else (.tuple [.bool false],o)
def nextObj (C:Ctx) (o:Own) (id:Nat):AObj->Option (AV×Own)
 | .siter s pos=>some (nextS C o id s pos)
 | _=>none
def nextA (C:Ctx) (o:Own):AV->Option (AV×Own)
 | .ptr id 0=>ob (own? C o id) fun x=>nextObj C o id x
 | _=>none
def extractA (i:Nat):AV->Option AV
 | .tuple vs=>vs[i]?
 | _=>none
def nilCheckA:AV->Option AV
 | .ptr id off=>some (.ptr id off)
 | .func f a b=>some (.func f a b)
 | _=>none
def makeFuncA (ρ:Operand->Option AV) (first captured:List Operand):Fn->Option AV
 | .func f=>ob (mapAll ρ first) fun a=>ob (mapAll ρ captured) fun b=>some (.func f a b)
 | _=>none
end
abbrev OpF:Type:=Tab->Ctx->(Operand->Option AV)->Own->Option (AV×Own)
def doMove (x:Operand):OpF:=fun P C ρ o=>keep o (ρ x)
def doPick (c a b:Operand):OpF:=fun P C ρ o=>keep o (ob (ρ c) (pickV (ρ a) (ρ b)))
def doAlloc (t:TypeId):OpF:=fun P C ρ o=>ob (zeroA P t) (allocV C o)
def doBox (x:Operand):OpF:=fun P C ρ o=>ob (ρ x) (allocV C o)
def doBuild (t:TypeId) (parts:Array (Nat×Operand)):OpF:=fun P C ρ o=>keep o (buildA P ρ t parts.toList)
def doBuildSlice (t:TypeId) (len:Nat) (parts:Array (Nat×Operand)):OpF:=fun P C ρ o=>buildSliceA P C ρ o t len parts.toList
def doLoad (t:TypeId) (a:Operand):OpF:=fun P C ρ o=>keep o (ob (ρ a) (loadA P C o t))
def doStore (t:TypeId) (a x:Operand):OpF:=fun P C ρ o=>ob (ρ a) fun p=>ob (ρ x) fun v=>ob (storeA P C o t v p) fun o'=>some (undefA,o')
def doNilCheck (x:Operand):OpF:=fun P C ρ o=>keep o (ob (ρ x) nilCheckA)
def doBin (op:BinOp) (t:TypeId) (x y:Operand):OpF:=fun P C ρ o=>keep o (ob (ρ x) fun a=>ob (ρ y) fun b=>binA P op t x y a b)
def doUn (op:UnOp) (x:Operand):OpF:=fun P C ρ o=>keep o (ob (ρ x) (unA op))
def doConvert (src dst:TypeId) (x:Operand):OpF:=fun P C ρ o=>ob (ρ x) (convertA P C o src dst)
def doIface (t:TypeId) (x:Operand):OpF:=fun P C ρ o=>keep o (ob (ρ x) (makeIfaceA P t))
def doFunc (fn:Fn) (first captured:Array Operand):OpF:=fun P C ρ o=>keep o (makeFuncA ρ first.toList captured.toList fn)
def doMakeMap (r:Option Operand):OpF:=fun P C ρ o=>ok r.isNone (some (.map (o.next C),o.push (.map [])))
def doMapUp (t:TypeId) (m k x:Operand):OpF:=fun P C ρ o=>ob (ρ m) fun mv=>ob (ρ k) fun kv=>ob (ρ x) fun v=>mapUpA P C o t mv kv v
def doMakeSlice (t:TypeId) (l c:Operand):OpF:=fun P C ρ o=>ob (ρ l) fun lv=>ob (ρ c) fun cv=>makeSliceA P C o t lv cv
def doSlice (t:TypeId) (x:Operand) (lo hi mx:Option Operand):OpF:=fun P C ρ o=>keep o (ob (ρ x) fun v=>ob (optA ρ lo) fun l=>ob (optA ρ hi) fun h=>ob (optA ρ mx) fun m=>sliceOf P t l h m v)
def doFieldAddr (s:TypeId) (x:Operand) (f:Nat):OpF:=fun P C ρ o=>keep o (ob (ρ x) (fieldAddrA P s f))
def doField (s:TypeId) (x:Operand) (f:Nat):OpF:=fun P C ρ o=>keep o (ob (ρ x) (fieldA P s f))
def doIndexAddr (t:TypeId) (x ix:Operand):OpF:=fun P C ρ o=>keep o (ob (ρ x) fun v=>ob (ρ ix) fun i=>ob (idxA i) fun n=>indexAddrA P t n v)
def doIndex (t:TypeId) (x ix:Operand):OpF:=fun P C ρ o=>keep o (ob (ρ x) fun v=>ob (ρ ix) fun i=>ob (idxA i) fun n=>indexA P t n v)
def doLookup (t:TypeId) (x ix:Operand) (okv:Bool):OpF:=fun P C ρ o=>keep o (ob (ρ x) fun m=>ob (ρ ix) fun k=>lookA P C o t okv m k)
def doRange (t:TypeId) (x:Operand):OpF:=fun P C ρ o=>ob (ρ x) (rangeA P C o t)
def doNext (it:Operand) (s:Bool):OpF:=fun P C ρ o=>ok s (ob (ρ it) (nextA C o))
def doExtract (t:Operand) (i:Nat):OpF:=fun P C ρ o=>keep o (ob (ρ t) (extractA i))
def doNone:OpF:=fun _ _ _ _=>none
def opSel:Op->OpF
 | .move x=>doMove x
 | .assign x=>doMove x
 | .pick c a b=>doPick c a b
 | .alloc t=>doAlloc t
 | .box _ x=>doBox x
 | .build t parts=>doBuild t parts
 | .buildSlice t len parts=>doBuildSlice t len parts
 | .load t a=>doLoad t a
 | .store t a x=>doStore t a x
 | .nilCheck x=>doNilCheck x
 | .binOp op t x y _=>doBin op t x y
 | .unOp op _ x=>doUn op x
 | .convert src dst x=>doConvert src dst x
 | .makeInterface t x=>doIface t x
 | .makeFunc fn first captured=>doFunc fn first captured
 | .makeMap _ r=>doMakeMap r
 | .insert t m k x=>doMapUp t m k x
 | .mapUpdate t m k x=>doMapUp t m k x
 | .makeSlice t l c=>doMakeSlice t l c
 | .slice t x lo hi mx=>doSlice t x lo hi mx
 | .fieldAddr s x f=>doFieldAddr s x f
 | .field s x f=>doField s x f
 | .indexAddr t x ix=>doIndexAddr t x ix
 | .index t x ix=>doIndex t x ix
 | .lookup t x ix okv=>doLookup t x ix okv
 | .range t x=>doRange t x
 | .next it s=>doNext it s
 | .extract t i=>doExtract t i
 | _=>doNone
def opA (P:Tab) (C:Ctx) (ρ:Operand->Option AV) (o:Own) (op:Op):Option (AV×Own):=opSel op P C ρ o
def belowA (lo:Nat):Nat->AV->Bool
 | 0,_=>false
 | d+1,v=>match v with
   | .ptr id _=>natLt id lo
   | .slice id _ _ _=>natLt id lo
   | .map id=>natLt id lo
   | .yield id=>natLt id lo
   | .func _ a b=>a.all (belowA lo d)&&b.all (belowA lo d)
   | .iface _ v=>belowA lo d v
   | .agg cs=>cs.all (belowA lo d)
   | .tuple cs=>cs.all (belowA lo d)
   | _=>true
def belowL (lo:Nat) (vs:List AV):Bool:=vs.all (belowA lo 20)
inductive AX where
 | normal
 | exit (id:Nat)
 | ret
 deriving Inhabited
structure St where
 ts:Ts
 tn:Nat
 o:Own
 ds:List Nat
 ro:Option Nat
 deriving Inhabited
structure Cfg where
 G:Nat
 lend:FuncId->List Nat
 canon:FuncId->Bool
 orc:FuncId->Ctx->List AV->Own->Option (AV×Own)
 root:Own
inductive Kind where
 | free
 | alloc
 | load
 | look
 | call
 | bar
def kindB:Builtin->Kind
 | .len|.cap|.min|.max=>.free
 | _=>.bar
def kindC:Callee->Kind
 | .builtin b=>kindB b
 | .value _=>.call
 | _=>.bar
def kindOp:Op->Kind
 | .move _|.assign _|.pick ..|.build ..|.nilCheck _|.binOp ..|.unOp ..|.makeInterface ..|.makeFunc ..|.slice ..|.fieldAddr ..|.field ..|.extract ..|.indexAddr ..|.index ..=>.free
 | .alloc _|.box ..|.buildSlice ..=>.alloc
 | .load ..=>.load
 | .lookup ..|.convert ..=>.look
 | .call c=>kindC c.callee
 | _=>.bar
def isFree:Kind->Bool
 | .free=>true
 | _=>false
def isLoad:Kind->Bool
 | .load=>true
 | _=>false
def nameOf:AV->Option Nat
 | .ptr id _=>some id
 | .slice id _ _ _=>some id
 | .map id=>some id
 | _=>none
def namesAt (args:List AV):List Nat->List Nat
 | []=>[]
 | p::ps=>match ob args[p]? nameOf with
   | some id=>id::namesAt args ps
   | none=>namesAt args ps
inductive Foot where
 | none
 | reads (id:Nat)
 | bar (ids:List Nat)
def bar1:Option Nat->Foot
 | some id=>.bar [id]
 | none=>.bar []
def bars:List Nat->Foot
 | []=>.none
 | l=>.bar l
def reads1:Option Nat->Foot
 | some id=>.reads id
 | none=>.bar []
def footF (cfg:Cfg) (vs:List AV):AV->Foot
 | .func f first captured=>bars (namesAt (first++vs++captured) (cfg.lend f))
 | _=>.bar []
def footB (ρ:Operand->Option AV) (args:List Operand):Builtin->Foot
 | .len|.cap|.min|.max=>.none
 | _=>bar1 (ob args[0]? fun x=>ob (ρ x) nameOf)
def footC (cfg:Cfg) (ρ:Operand->Option AV) (args:List Operand):Callee->Foot
 | .builtin b=>footB ρ args b
 | .value f=>match ρ f with
   | some fv=>match mapAll ρ args with
     | some vs=>footF cfg vs fv
     | none=>.bar []
   | none=>.bar []
 | _=>.bar []
def footK (cfg:Cfg) (ρ:Operand->Option AV) (op:Op):Kind->Foot
 | .bar=>.bar []
 | _=>.none
def footA (cfg:Cfg) (ρ:Operand->Option AV):Op->Foot
 | .load _ a=>reads1 (ob (ρ a) nameOf)
 | .store _ a _=>bar1 (ob (ρ a) nameOf)
 | .insert _ m _ _=>bar1 (ob (ρ m) nameOf)
 | .mapUpdate _ m _ _=>bar1 (ob (ρ m) nameOf)
 | .next it _=>bar1 (ob (ρ it) nameOf)
 | .call c=>footC cfg ρ c.args.toList c.callee
 | op=>footK cfg ρ op (kindOp op)
def allLt (n:Nat):List Nat->Bool
 | []=>true
 | x::xs=>natLt x n&&allLt n xs
def footLt (n:Nat):Foot->Bool
 | .bar ids=>allLt n ids
 | _=>true
def elemN (id:Nat):List Nat->Bool
 | []=>false
 | x::xs=>Nat.beq x id || elemN id xs
def forceN {α:Type} (k:Nat->α):Nat->α
 | 0=>k 0
 | n+1=>k (n+1)
def forceL {α:Type} (k:List Nat->α):List Nat->α
 | []=>k []
 | x::xs=>k (x::xs)
def bitsAt (acc:List Nat) (n j:Nat):Nat:=bif natLt j n then acc.getD (n-1-j) 0 else 0
def orE (acc:List Nat) (n:Nat):List Edge->Nat->Nat
 | [],s=>s
 | e::es,s=>orE acc n es (bif Region.binds .any e then s ||| 2^e.on ||| bitsAt acc n e.on else s)
def befR:List Oper->List Nat
 | []=>[]
 | o::prev=>forceL (fun acc=>forceN (fun v=>v::acc) (orE acc prev.length o.after.toList 0)) (befR prev)
def bitAt (acc:List Nat) (n i j:Nat):Bool:=(bitsAt acc n j).testBit i
def ordB (acc:List Nat) (n i j:Nat):Bool:=bif Nat.ble i j then bitAt acc n i j else bitAt acc n j i
def tmpOf:Operand->Option Tmp
 | .tmp t=>some t
 | _=>none
def guardT (ops:Array Oper):Option (Nat×Bool)->Option Tmp
 | some jw=>ob ops[jw.1]? fun o=>o.dst
 | none=>none
def tmpsOf (ops:Array Oper) (o:Oper):List Tmp:=o.dst.toList++(guardT ops o.guard).toList++o.op.operands.toList.filterMap tmpOf
def isDst (t:Tmp):Option Tmp->Bool
 | some d=>Nat.beq d t
 | none=>false
def tmpJ (acc:List Nat) (n k:Nat) (t:Tmp):Nat->List Oper->Bool
 | _,[]=>true
 | j,o::rest=>(!isDst t o.dst || Nat.beq j k || ordB acc n j k)&&tmpJ acc n k t (j+1) rest
def tmpK (ops:Array Oper) (acc:List Nat):Nat->List Oper->Bool
 | _,[]=>true
 | k,o::rest=>(tmpsOf ops o).all (fun t=>tmpJ acc ops.size k t 0 ops.toList)&&tmpK ops acc (k+1) rest
def edgeJ (j:Nat):List Edge->Bool
 | []=>true
 | e::es=>(!Region.binds .any e || natLt e.on j)&&edgeJ j es
def edgeK:Nat->List Oper->Bool
 | _,[]=>true
 | j,o::rest=>edgeJ j o.after.toList&&edgeK (j+1) rest
def statA (ops:Array Oper):Option (List Nat):=forceL (fun acc=>ok (tmpK ops acc 0 ops.toList&&edgeK 0 ops.toList) (some acc)) (befR ops.toList.reverse)
def readsNot (j:Nat) (ids:List Nat):List (Nat×Foot)->Bool
 | []=>true
 | e::rest=>(match e.2 with
   | .reads id=>!(Nat.beq e.1 j&&elemN id ids)
   | _=>true)&&readsNot j ids rest
def apartJ (acc:List Nat) (n:Nat) (log:List (Nat×Foot)) (i:Nat) (ids:List Nat):Nat->List Oper->Bool
 | _,[]=>true
 | j,o::rest=>(Nat.beq i j || isFree (kindOp o.op) || ordB acc n i j || (isLoad (kindOp o.op)&&readsNot j ids log))&&apartJ acc n log i ids (j+1) rest
def apartE (ops:Array Oper) (acc:List Nat) (log:List (Nat×Foot)):List (Nat×Foot)->Bool
 | []=>true
 | e::rest=>(match e.2 with
   | .bar ids=>apartJ acc ops.size log e.1 ids 0 ops.toList
   | _=>true)&&apartE ops acc log rest
def isTrueV (want:Bool):Value->Bool
 | .bool b=>bif want then b else !b
 | _=>false
def isTrue (want:Bool):AV->Bool
 | .bool b=>bif want then b else !b
 | .any v=>isTrueV want v
 | _=>false
def wantedT (ts:Ts) (want:Bool):Option Tmp->Bool
 | some t=>isTrue want (ts.get t)
 | none=>false
def wantedA (ops:Array Oper) (ts:Ts):Option (Nat×Bool)->Bool
 | none=>true
 | some jw=>match ops[jw.1]? with
   | some o=>wantedT ts jw.2 o.dst
   | none=>false
def putA (st:St) (v:AV) (o:Own):Option Tmp->Option St
 | some d=>ok (natLt d st.tn&&natLt d 1000000) (some ⟨Ts.set 20 st.ts d v,st.tn,o,st.ds,st.ro⟩)
 | none=>some ⟨st.ts,st.tn,o,st.ds,st.ro⟩
section
variable (P:Tab) (cfg:Cfg) (call:Ctx->FuncId->List AV->Own->Option (AV×Own)) (rnd:Ctx->Nat->List AV->Own->Option (AV×Own)) (C:Ctx)
def callV (vs:List AV) (o:Own):AV->Option (AV×Own)
 | .func f first captured=>call C f (first++vs++captured) o
 | .yield id=>rnd C id vs o
 | _=>none
def rnd0:Ctx->Nat->List AV->Own->Option (AV×Own):=fun _ _ _ _=>none
def callC (ρ:Operand->Option AV) (o:Own) (c:Call):Option (AV×Own):=match c.callee with
 | .value f=>ob (ρ f) fun fv=>ob (mapAll ρ c.args.toList) fun vs=>callV call rnd C vs o fv
 | .builtin b=>ob (mapAll ρ c.args.toList) fun vs=>builtinA P C o b c.argTypes.toList vs
 | _=>none
def stepA (ρ:Operand->Option AV) (o:Own):Op->Option (AV×Own)
 | .call c=>callC P call rnd C ρ o c
 | op=>opA P C ρ o op
def opsA (ops:Array Oper):List Oper->St->Option St
 | [],st=>some st
 | op::rest,st=>ob (bif wantedA ops st.ts op.guard then ob (stepA P call rnd C (evalA cfg.G st.ts) st.o op.op) fun r=>putA st r.1 r.2 op.dst else putA st undefA st.o op.dst) (opsA ops rest)
def drawA (ops:Array Oper):Nat->List Oper->St->List (Nat×Foot)->Option (St×List (Nat×Foot))
 | _,[],st,log=>some (st,log)
 | i,op::rest,st,log=>
   bif wantedA ops st.ts op.guard then ob (stepA P call rnd0 C (evalA cfg.G st.ts) st.o op.op) fun r=>ob (putA st r.1 r.2 op.dst) fun st'=>
    ok (footLt (C.lo+st.o.n) (footA cfg (evalA cfg.G st.ts) op.op)) (drawA ops (i+1) rest st' ((i,footA cfg (evalA cfg.G st.ts) op.op)::log))
   else ob (putA st undefA st.o op.dst) fun st'=>drawA ops (i+1) rest st' ((i,.none)::log)
def regionA (callI:Ctx->FuncId->List AV->Own->Option (AV×Own)) (ops:Array Oper) (draw:Bool) (st:St):Option St:=
 bif draw then ob (statA ops) fun acc=>ob (drawA P cfg call C ops 0 ops.toList st []) fun r=>ok (apartE ops acc r.2 r.2) (some r.1)
 else opsA P cfg callI rnd C ops ops.toList st
def resA (st:St):List ResultVar->Option (List AV)
 | []=>some []
 | .tmp t::rest=>ob (resA st rest) fun vs=>some (st.ts.get t::vs)
 | .cell a t::rest=>ob (loadA P C st.o t (st.ts.get a)) fun v=>ob (resA st rest) fun vs=>some (v::vs)
end
def oneOf:List AV->AV
 | [v]=>v
 | vs=>.tuple vs
def lendA (C:Ctx) (o:Own):List Nat->List (Nat×AObj)
 | []=>[]
 | id::ids=>bif elemN id ids then lendA C o ids else match own? C o id with
   | some x=>(id,x)::lendA C o ids
   | none=>lendA C o ids
def backA (C:Ctx) (o:Own):List (Nat×AObj)->Own
 | []=>o
 | p::rest=>backA C (putO C o p.1 p.2) rest
def anyY:Nat->AV->Bool
 | 0,_=>false
 | d+1,v=>match v with
   | .yield _=>true
   | .func _ a b=>a.any (anyY d) || b.any (anyY d)
   | .iface _ v=>anyY d v
   | .agg cs=>cs.any (anyY d)
   | .tuple cs=>cs.any (anyY d)
   | _=>false
def anyYL (vs:List AV):Bool:=vs.any (anyY 5)
def marksA (C:Ctx) (o:Own):List Nat->Option Own
 | []=>some o
 | d::ds=>match own? C o d with
   | some .defs=>marksA C (putO C o d .dead) ds
   | _=>none
section
variable (P:Tab) (cfg:Cfg)
def bodyOf (f:FuncId):Option (Func×Code):=ob (P.fn.get f) fun fn=>ob fn.body fun c=>some (fn,c)
def endA (C:Ctx) (fn:Func) (r:AX×St):Option (AV×Own):=match r.1 with
 | .exit _=>none
 | _=>ob (marksA C r.2.o r.2.ds) fun o=>ob (resA P C ⟨r.2.ts,r.2.tn,o,[],none⟩ fn.results.toList) fun vs=>some (oneOf vs,o)
def startA (fn:Func) (args:List AV) (o:Own):St:=⟨Ts.ofList 0 .nil args,max args.length fn.ntmps,o,[],none⟩
def afterA (C:Ctx) (o:Own) (le:List (Nat×AObj)) (r:AV×Own):AV×Own:=match le with
 | []=>bif belowA (C.lo+o.n) 20 r.1 then (r.1,o) else (r.1,⟨r.2.n+o.n,r.2.os++o.os,o.le⟩)
 | _::_=>(r.1,backA C ⟨r.2.n+o.n,r.2.os++o.os,o.le⟩ r.2.le)
def enterA (code:Ctx->Code->St->Option (AX×St)) (C:Ctx) (fn:Func) (c:Code) (args:List AV) (o:Own):Option (AV×Own):=
 ok (Nat.ble args.length 1000) (ob (code C c (startA fn args o)) (endA P C fn))
def callN (code:Ctx->Code->St->Option (AX×St)) (C:Ctx) (fn:Func) (c:Code) (args:List AV) (o:Own) (le:List (Nat×AObj)):Option (AV×Own):=
 ob (enterA P code ⟨(C.lo,o)::C.B,C.lo+o.n⟩ fn c args ⟨0,[],le⟩) fun r=>some (afterA C o le r)
def callP (code:Ctx->Code->St->Option (AX×St)) (fn:Func) (c:Code) (args:List AV):Option AV:=
 ob (enterA P code ⟨[(0,cfg.root)],cfg.root.n⟩ fn c args ⟨0,[],[]⟩) fun r=>ok (belowA cfg.root.n 20 r.1) (some r.1)
def callL (code:Ctx->Code->St->Option (AX×St)) (C:Ctx) (inl:Bool) (args:List AV) (o:Own) (le:List Nat) (fc:Func×Code):Option (AV×Own):=
 bif inl&&anyYL args then enterA P code C fc.1 fc.2 args o else callN P code C fc.1 fc.2 args o (lendA C o le)
def callF (inl:Bool) (code:Ctx->Code->St->Option (AX×St)) (C:Ctx) (f:FuncId) (args:List AV) (o:Own):Option (AV×Own):=
 ob (bodyOf P f) fun fc=>bif cfg.canon f&&belowL cfg.root.n args then ob (callP P cfg code fc.1 fc.2 args) fun v=>some (v,o)
  else callL P code C inl args o (namesAt args (cfg.lend f)) fc
def callA (inl:Bool) (code:Ctx->Code->St->Option (AX×St)) (C:Ctx) (f:FuncId) (args:List AV) (o:Own):Option (AV×Own):=match cfg.orc f C args o with
 | some r=>some r
 | none=>callF P cfg inl code C f args o
def isReady:LoopState->Bool
 | .ready=>true
 | _=>false
def isBusy:LoopState->Bool
 | .busy=>true
 | _=>false
def setPs (tn:Nat) (ts:Ts):List Tmp->List AV->Option Ts
 | [],[]=>some ts
 | t::ps,v::vs=>ok (natLt t tn&&natLt t 1000000) (setPs tn (Ts.set 20 ts t v) ps vs)
 | _,_=>none
def loopAt (C:Ctx) (o:Own) (id:Nat):Option ALoop:=match own? C o id with
 | some (.loop r)=>some r
 | _=>none
def jumpOf:AX->Option Code
 | .normal=>none
 | .exit id=>some (.exit id)
 | .ret=>some .ret
def endState:AX->LoopState
 | .normal=>.ready
 | _=>.done
def isNorm:AX->Bool
 | .normal=>true
 | _=>false
def endRoundA (C:Ctx) (id:Nat) (x:AX×St):Option (AV×Own):=
 ob (loopAt C x.2.o id) fun r=>some (.bool (isNorm x.1),putO C x.2.o id (.loop ⟨endState x.1,jumpOf x.1,r.ts,r.tn,r.params,r.assign,r.body,r.defs⟩))
def beginRoundA (code:Ctx->Code->St->Option (AX×St)) (C:Ctx) (id:Nat) (body:Code) (x:AX×St):Option (AV×Own):=
 ok (isNorm x.1) (ob (loopAt C x.2.o id) fun r=>ok (isReady r.state)
  (ob (code C body ⟨x.2.ts,x.2.tn,putO C x.2.o id (.loop ⟨.busy,r.pend,r.ts,r.tn,r.params,r.assign,r.body,r.defs⟩),x.2.ds,x.2.ro⟩) (endRoundA C id)))
def roundA (code:Ctx->Code->St->Option (AX×St)) (C:Ctx) (id:Nat) (args:List AV) (o:Own):Option (AV×Own):=
 ob (loopAt C o id) fun r=>ob (setPs r.tn r.ts r.params.toList args) fun ts=>ob (code C r.assign ⟨ts,r.tn,o,[],some id⟩) (beginRoundA code C id r.body)
def thenA (f:St->Option (AX×St)) (r:AX×St):Option (AX×St):=match r.1 with
 | .normal=>f r.2
 | _=>some r
def leaveA (id:Nat) (r:AX×St):AX×St:=match r.1 with
 | .exit j=>bif Nat.beq j id then (.normal,r.2) else r
 | _=>r
def condA (f:Code->Option (AX×St)) (a b:Code):AV->Option (AX×St)
 | .bool true=>f a
 | .bool false=>f b
 | _=>none
end
abbrev CodeF:Type:=Tab->Cfg->(Ctx->Code->St->Option (AX×St))->Ctx->St->Option (AX×St)
def cSkip:CodeF:=fun _ _ _ _ st=>some (.normal,st)
def cSeq (a b:Code):CodeF:=fun _ _ code C st=>ob (code C a st) (thenA (code C b))
def cCond (c:Operand) (a b:Code):CodeF:=fun _ cfg code C st=>ob (evalA cfg.G st.ts c) (condA (fun c=>code C c st) a b)
def cBlock (id:Nat) (b:Code):CodeF:=fun _ _ code C st=>ob (code C b st) fun r=>some (leaveA id r)
def cLoop (b:Code):CodeF:=fun _ _ code C st=>ob (code C b st) (thenA (code C (.loop b)))
def cScope (b:Code):CodeF:=fun _ _ code C st=>code C b st
def cExit (id:Nat):CodeF:=fun _ _ _ _ st=>some (.exit id,st)
def cRet:CodeF:=fun _ _ _ _ st=>some (.ret,st)
def cRegion (ops:Array Oper) (draw:Bool):CodeF:=fun P cfg code C st=>ob (regionA P cfg (callA P cfg false code) (roundA code) C (callA P cfg true code) ops draw st) fun st'=>some (.normal,st')
def enterDefs (C:Ctx) (st:St):Option (Nat×Own×List Nat):=match st.ro with
 | none=>some (st.o.next C,st.o.push .defs,st.o.next C::st.ds)
 | some i=>ob (loopAt C st.o i) fun r=>some (r.defs,st.o,st.ds)
def endJump:Option Code->Option AX
 | none=>some .normal
 | some .ret=>some .ret
 | some (.exit id)=>some (.exit id)
 | some _=>none
def endLoopA (C:Ctx) (st:St) (l:Nat) (ds:List Nat) (r:AV×Own):Option (AX×St):=
 ob (loopAt C r.2 l) fun q=>ok (!isBusy q.state) (ob (endJump q.pend) fun x=>some (x,⟨st.ts,st.tn,putO C r.2 l (.loop ⟨.exhausted,q.pend,q.ts,q.tn,q.params,q.assign,q.body,q.defs⟩),ds,st.ro⟩))
def loopCall (P:Tab) (code:Ctx->Code->St->Option (AX×St)) (C:Ctx) (l:Nat) (o:Own):AV->Option (AV×Own)
 | .func f first captured=>ob (bodyOf P f) fun fc=>enterA P code C fc.1 fc.2 (first++[.yield l]++captured) o
 | _=>none
def cRange (g:Operand) (ps:Array Tmp) (assign body:Code):CodeF:=fun P cfg code C st=>
 ob (evalA cfg.G st.ts g) fun gv=>ob (enterDefs C st) fun e=>
  ob (loopCall P code C (e.2.1.next C) (e.2.1.push (.loop ⟨.ready,none,st.ts,st.tn,ps,assign,body,e.1⟩)) gv) (endLoopA C st (e.2.1.next C) e.2.2)
def cNone:CodeF:=fun _ _ _ _ _=>none
def codeSel:Code->CodeF
 | .skip=>cSkip
 | .label _=>cSkip
 | .seq a b=>cSeq a b
 | .cond c a b=>cCond c a b
 | .block id b=>cBlock id b
 | .loop b=>cLoop b
 | .scope b=>cScope b
 | .exit id=>cExit id
 | .ret=>cRet
 | .region _ ops draw=>cRegion ops draw
 | .rangeFunc g ps assign body=>cRange g ps assign body
 | _=>cNone
def codeA (P:Tab) (cfg:Cfg):Nat->Ctx->Code->St->Option (AX×St)
 | 0,_,_,_=>none
 | n+1,C,c,st=>codeSel c P cfg (codeA P cfg n) C st
end Go.Ev
