import GoSem.Step
set_option linter.all false
namespace Go.Ev
open Go
inductive dv where
 | known (n:Nat)
 | rest (k:Nat)
 deriving Inhabited
inductive AV where
 | bool (b:Bool)
 | int (k:IntKind) (n:Int)
 | str (s:List UInt8)
 | ptr (id off:Nat)
 | nilptr
 | slice (id off len:Nat) (cap:dv)
 | nilslice
 | func (f:FuncId) (first captured:List AV)
 | nilfunc
 | iface (t:TypeId) (v:AV)
 | niliface
 | agg (cells:List AV)
 | tuple (vs:List AV)
 | map (id:Nat)
 | nilmap
 | yield (id:Nat)
 | any (v:Value)
 deriving Inhabited
def bj:AV:=.tuple []
inductive Ts where
 | nil
 | node (v:AV) (l r:Ts)
 deriving Inhabited
def Ts.get:Ts->Nat->AV
 | .nil,_=>bj
 | .node v l r,i=>bif Nat.beq i 0 then v else bif Nat.beq (i%2) 1 then l.get (i/2)else r.get (i/2-1)
def Ts.val:Ts->AV
 | .nil=>bj
 | .node v _ _=>v
def Ts.left:Ts->Ts
 | .nil=>.nil
 | .node _ l _=>l
def Ts.right:Ts->Ts
 | .nil=>.nil
 | .node _ _ r=>r
def Ts.set:Nat->Ts->Nat->AV->Ts
 | 0,t,_,_=>t
 | d+1,t,i,v=>bif Nat.beq i 0 then .node v t.left t.right
   else bif Nat.beq (i%2) 1 then .node t.val (Ts.set d t.left (i/2) v) t.right else .node t.val t.left (Ts.set d t.right (i/2-1) v)
def Ts.ofList(i:Nat)(t:Ts):List AV->Ts
 | []=>t
 | v::vs=>Ts.ofList (i+1) (Ts.set 20 t i v) vs
structure vT where
 state:LoopState
 pend:Option Code
 ts:Ts
 tn:Nat
 params:Array Tmp
 assign:Code
 body:Code
 defs:Nat
inductive aw where
 | cells (cs:List AV) (rw:Bool) (grow:Option Nat)
 | map (es:List (AV×AV))
 | siter (s:List UInt8) (pos:Nat)
 | loop (r:vT)
 | defs
 | dead
 deriving Inhabited
structure aC where
 n:Nat
 os:List aw
 le:List (Nat×aw)
 deriving Inhabited
structure bg where
 B:List (Nat×aC)
 lo:Nat
def ob{α β:Type}(x:Option α)(f:α->Option β):Option β:=match x with
 | none=>none
 | some a=>f a
def ok{α:Type}(b:Bool)(x:Option α):Option α:=bif b then x else none
def tx:List aw->Nat->aw->List aw
 | [],_,_=>[]
 | _::os,0,x=>x::os
 | y::os,n+1,x=>y::tx os n x
def aC.at(o:aC)(i:Nat):aw:=o.os.getD (o.n-1-i) .dead
def aC.put(o:aC)(i:Nat)(x:aw):aC:=⟨o.n,tx o.os (o.n-1-i) x,o.le⟩
def aC.push(o:aC)(x:aw):aC:=⟨o.n+1,x::o.os,o.le⟩
def ew:List (Nat×aw)->Nat->Option aw
 | [],_=>none
 | p::rest,id=>bif Nat.beq p.1 id then some p.2 else ew rest id
def rN:List (Nat×aw)->Nat->aw->List (Nat×aw)
 | [],_,_=>[]
 | p::rest,id,x=>bif Nat.beq p.1 id then(id,x)::rest else p::rN rest id x
def aC.next(C:bg)(o:aC):Nat:=C.lo+o.n
def ff:List (Nat×aC)->Nat->aw
 | [],_=>.dead
 | p::rest,id=>bif Nat.ble p.1 id then p.2.at (id-p.1)else match ew p.2.le id with
   | some x=>x
   | none=>ff rest id
def get(C:bg)(o:aC)(id:Nat):aw:=ff ((C.lo,o)::C.B) id
def dP(C:bg)(o:aC)(id:Nat):Option aw:=bif Nat.ble C.lo id then some (o.at (id-C.lo))else ew o.le id
def dY(C:bg)(o:aC)(id:Nat)(x:aw):aC:=bif Nat.ble C.lo id then o.put (id-C.lo) x else⟨o.n,o.os,rN o.le id x⟩
def bP:AV->List AV
 | .agg cs=>cs
 | .any v=>v.cells.toList.map .any
 | v=>[v]
def Gv:AV->Bool
 | .agg _|.tuple _|.any _=>false
 | _=>true
def H7:Value->Option AV
 | .bool b=>some (.bool b)
 | .int k n=>some (.int k n)
 | .string s=>some (.str s.data.toList)
 | .pointer none=>some .nilptr
 | .slice none 0 0=>some .nilslice
 | .map none=>some .nilmap
 | .nilFunc=>some .nilfunc
 | .nilIface=>some .niliface
 | _=>none
def Hj:List Value->Option (List AV)
 | []=>some []
 | v::vs=>ob (H7 v) λa=>ob (Hj vs) λsa0=>some (a::sa0)
def IB:Value->Option AV
 | .agg cs=>ob (Hj cs.toList) λsa0=>some (.agg sa0)
 | v=>H7 v
def nB:IntKind->Nat
 | .i8=>0|.i16=>1|.i32=>2|.i64=>3|.u8=>4|.u16=>5|.u32=>6|.u64=>7
def hU(a b:IntKind):Bool:=Nat.beq (nB a) (nB b)
def bm(a b:Nat):Bool:=Nat.ble (a+1) b
def ab:Int->Int->Bool
 | .ofNat a,.ofNat b=>Nat.ble a b
 | .negSucc _,.ofNat _=>true
 | .ofNat _,.negSucc _=>false
 | .negSucc a,.negSucc b=>Nat.ble b a
def aa:Int->Int->Bool
 | .ofNat a,.ofNat b=>Nat.beq a b
 | .negSucc a,.negSucc b=>Nat.beq a b
 | _,_=>false
def aL:Bool->Bool->Bool
 | true,b=>b
 | false,b=>!b
def bA:IntKind->Int
 | .i8=>-128|.i16=>-32768|.i32=>-2147483648|.i64=>-9223372036854775808
 | _=>0
def bB:IntKind->Int
 | .i8=>127|.i16=>32767|.i32=>2147483647|.i64=>9223372036854775807
 | .u8=>255|.u16=>65535|.u32=>4294967295|.u64=>18446744073709551615
def xx(k:IntKind)(n:Int):Int:=bif ab (bA k) n&&ab n (bB k)then n else k.wrap n
def CL(k:IntKind)(c:Nat->Int):Nat->AV
 | 0=>.int k (c 0)
 | m+1=>.int k (c (m+1))
def Ct(k:IntKind):Int->AV
 | .ofNat n=>CL k .ofNat n
 | .negSucc n=>CL k .negSucc n
def gJ(k:IntKind)(n:Int):Option AV:=some (Ct k (xx k n))
def goInt(n:Nat):AV:=CL .i64 .ofNat n
def iv(cs:List AV)(off n:Nat):Option (List AV):=ok (Nat.beq ((cs.drop off).take n).length n) (some ((cs.drop off).take n))
def qf:List AV->List AV->Option (List AV)
 | cs,[]=>some cs
 | [],_::_=>none
 | _::cs,v::vs=>ob (qf cs vs) λr=>some (v::r)
def rS:List AV->Nat->List AV->Option (List AV)
 | cs,0,vs=>qf cs vs
 | [],_+1,_=>none
 | c::cs,n+1,vs=>ob (rS cs n vs) λr=>some (c::r)
def qi(place:Nat->Option (Nat×Nat))(cells:List AV):List (Nat×AV)->Option (List AV)
 | []=>some cells
 | p::rest=>ob (place p.1) λq=>ok (Nat.beq (bP p.2).length q.2) (ob (rS cells q.1 (bP p.2)) λr=>qi place r rest)
def jb(zero:List AV):Nat->List AV
 | 0=>[]
 | n+1=>zero++jb zero n
def af:List UInt8->List UInt8->Bool
 | [],[]=>true
 | a::x,b::y=>Nat.beq a.toNat b.toNat&&af x y
 | _,_=>false
def nO:List UInt8->List UInt8->Bool
 | _,[]=>false
 | [],_::_=>true
 | a::x,b::y=>bm a.toNat b.toNat || (Nat.beq a.toNat b.toNat&&nO x y)
inductive Tb(α:Type) where
 | nil
 | node (v:Option α) (l r:Tb α)
def Tb.get{α:Type}:Tb α->Nat->Option α
 | .nil,_=>none
 | .node v l r,i=>bif Nat.beq i 0 then v else bif Nat.beq (i%2) 1 then l.get (i/2)else r.get (i/2-1)
structure TE where
 i:TypeInfo
 u:TypeDesc
 guard:Bool
 stood:Bool
structure eA where
 ty:Tb TE
 fn:Tb Func
section
variable(P:eA)
def eA.und(t:TypeId):Option TypeDesc:=ob (P.ty.get t) λe=>some e.u
def eA.inf(t:TypeId):Option TypeInfo:=ob (P.ty.get t) λe=>some e.i
def fx(t:TypeId):Option Nat:=ob (P.ty.get t) λe=>some e.i.size
def rt:Option TypeDesc->Bool
 | some (.struct _)|some (.array _ _)=>true
 | _=>false
def jh(t:TypeId):Option AV:=ob (P.inf t) λi=>ob i.zero IB
def za:Option TypeDesc->Option TypeId
 | some (.slice e)=>some e
 | _=>none
def iU(t:TypeId):Option TypeId:=za (P.und t)
def MT:Option TypeDesc->Option (Nat×TypeId)
 | some (.array n e)=>some (n,e)
 | _=>none
def yp(t:TypeId):Option (Nat×TypeId):=MT (P.und t)
def kk:Option TypeDesc->Option (Array Field)
 | some (.struct fs)=>some fs
 | _=>none
def qx(t:TypeId):Option (Array Field):=kk (P.und t)
def MU:Option TypeDesc->Option IntKind
 | some (.int k)=>some k
 | _=>none
def NM(t:TypeId):Option IntKind:=MU (P.und t)
def tB:Option TypeDesc->Bool
 | some .string=>true
 | _=>false
def tt(t:TypeId):Bool:=tB (P.und t)
def E6:Option TypeDesc->Bool
 | some .bool=>true
 | _=>false
def Ar:Option TypeDesc->Bool
 | some (.interface _)=>true
 | _=>false
def Ck:Option TypeDesc->Option (TypeId×TypeId)
 | some (.map k e)=>some (k,e)
 | _=>none
def nZ(k:AV):Option TypeDesc->Bool
 | some (.int _)=>match k with
   | .int _ _=>true
   | _=>false
 | some .string=>match k with
   | .str _=>true
   | _=>false
 | some .bool=>match k with
   | .bool _=>true
   | _=>false
 | _=>false
def gN(t:TypeId)(cs:List AV)(off:Nat):Option AV:=
 ob (P.und t) λd=>bif rt (some d)then ob (fx P t) λn=>ob (iv cs off n) λr=>some (.agg r)else cs[off]?
def gU(cmp:TypeId->AV->AV->Option Bool)(xs ys:List AV):List Field->Option Bool
 | []=>some true
 | f::fs=>ok (!(f.name == "_")) (ob (gN P f.type xs f.offset) λa=>ob (gN P f.type ys f.offset) λb=>ob (cmp f.type a b) λr=>
   bif r then gU cmp xs ys fs else some false)
def iP(cmp:AV->AV->Option Bool)(elem:TypeId)(n:Nat)(xs ys:List AV)(i:Nat):Nat->Option Bool
 | 0=>some true
 | k+1=>ob (gN P elem xs (i*n)) λa=>ob (gN P elem ys (i*n)) λb=>ob (cmp a b) λr=>
   bif r then iP cmp elem n xs ys (i+1) k else some false
def pE:AV->Bool
 | .nilptr|.nilslice|.nilmap|.nilfunc|.niliface=>true
 | _=>false
def xI:AV->Nat
 | .nilptr|.ptr ..=>1
 | .nilslice|.slice ..=>2
 | .nilmap|.map _=>3
 | .nilfunc|.func ..=>4
 | .niliface|.iface ..=>5
 | _=>0
def BP:Option TypeDesc->Nat
 | some (.pointer _)=>1
 | some (.slice _)=>2
 | some (.map _ _)=>3
 | some (.func ..)=>4
 | some (.interface _)=>5
 | _=>9
def yr(d:Option TypeDesc)(x y:AV):Option Bool:=
 ok (Nat.beq (xI x) (BP d)&&Nat.beq (xI y) (BP d)&&(pE x || pE y)) (some (pE x&&pE y))
def wq(t:TypeId)(a:Bool):AV->Option Bool
 | .bool b=>ok (E6 (P.und t)) (some (aL a b))
 | _=>none
def Ad(t:TypeId)(k:IntKind)(a:Int):AV->Option Bool
 | .int k' b=>ok ((NM P t).isSome&&hU k k') (some (aa a b))
 | _=>none
def zr(t:TypeId)(a:List UInt8):AV->Option Bool
 | .str b=>ok (tt P t) (some (af a b))
 | _=>none
def xi(cmp:TypeId->AV->AV->Option Bool)(t:TypeId)(xs ys:List AV):Option TypeDesc->Option Bool
 | some (.struct fields)=>ob (P.ty.get t) λe=>ok (!e.stood) (gU P cmp xs ys fields.toList)
 | some (.array len elem)=>ob (fx P elem) λn=>iP P (cmp elem) elem n xs ys 0 len
 | _=>none
def zN(cmp:TypeId->AV->AV->Option Bool)(t:TypeId)(xs:List AV):AV->Option Bool
 | .agg ys=>xi P cmp t xs ys (P.und t)
 | _=>none
def lh(cmp:TypeId->AV->AV->Option Bool)(t a:TypeId)(u:AV)(y:AV):Option Bool:=match y with
 | .iface b v=>ok (Ar (P.und t)) (bif Nat.beq a b then ob (P.inf a) λi=>ok i.comparable (cmp a u v)else some false)
 | y=>yr (P.und t) (.iface a u) y
def G4(cmp:TypeId->AV->AV->Option Bool)(t:TypeId)(x y:AV):Option Bool:=match x with
 | .bool a=>wq P t a y
 | .int k a=>Ad P t k a y
 | .str a=>zr P t a y
 | .agg xs=>zN P cmp t xs y
 | .iface a u=>lh P cmp t a u y
 | x=>yr (P.und t) x y
def Ip:Nat->TypeId->AV->AV->Option Bool
 | 0,_,_,_=>none
 | d+1,t,x,y=>G4 P (Ip d) t x y
end
def ea(G:Nat)(ts:Ts):Operand->Option AV
 | .tmp t=>some (ts.get t)
 | .const v=>IB v
 | .global g=>ok (bm g G) (some (.ptr g 0))
 | .func f=>some (.func f [] [])
def nU:Operand->Bool
 | .const _=>true
 | _=>false
def MQ(op:BinOp)(lt eq:Bool):Option AV:=match op with
 | .eql=>some (.bool eq)
 | .neq=>some (.bool !eq)
 | .lss=>some (.bool lt)
 | .leq=>some (.bool (lt || eq))
 | .gtr=>some (.bool !(lt || eq))
 | .geq=>some (.bool !lt)
 | _=>none
abbrev kB:Type:=IntKind->Int->Int->Option AV
def P9:kB:=λk x y=>gJ k (BitVec.ofInt k.bits x &&& BitVec.ofInt k.bits y).toNat
def XN:kB:=λk x y=>gJ k (BitVec.ofInt k.bits x ||| BitVec.ofInt k.bits y).toNat
def IL:kB:=λk x y=>gJ k (BitVec.ofInt k.bits x ^^^ BitVec.ofInt k.bits y).toNat
def BH:kB:=λk x y=>gJ k (BitVec.ofInt k.bits x &&& ~~~BitVec.ofInt k.bits y).toNat
def Rg:kB:=λk a b=>gJ k (Int.add a b)
def Pa:kB:=λk a b=>gJ k (Int.sub a b)
def Sm:kB:=λk a b=>gJ k (Int.mul a b)
def Mh:kB:=λk a b=>ok (!(aa b 0)) (gJ k (Int.tdiv a b))
def MC:kB:=λk a b=>ok (!(aa b 0)) (some (Ct k (Int.tmod a b)))
def LA:kB:=λ_ a b=>some (.bool (aa a b))
def Lj:kB:=λ_ a b=>some (.bool !(aa a b))
def MH:kB:=λ_ a b=>some (.bool !(ab b a))
def Mw:kB:=λ_ a b=>some (.bool (ab a b))
def MO:kB:=λ_ a b=>some (.bool !(ab a b))
def Lv:kB:=λ_ a b=>some (.bool (ab b a))
def yg:kB:=λ_ _ _=>none
def wH:BinOp->kB
 | .add=>Rg
 | .sub=>Pa
 | .mul=>Sm
 | .quo=>Mh
 | .rem=>MC
 | .and=>P9
 | .or=>XN
 | .xor=>IL
 | .andNot=>BH
 | .eql=>LA
 | .neq=>Lj
 | .lss=>MH
 | .leq=>Mw
 | .gtr=>MO
 | .geq=>Lv
 | .shl=>yg
 | .shr=>yg
def w8(y:Int)(k:IntKind):Nat:=min y.toNat k.bits
def mj:BinOp->Bool
 | .shl|.shr=>true
 | _=>false
def zu(op:BinOp)(k:IntKind)(a b:Int):Option AV:=ok (ab 0 b) (match op with
 | .shl=>gJ k (a*2^w8 b k)
 | .shr=>some (Ct k (a.fdiv (2^w8 b k)))
 | _=>none)
def Gp(op:BinOp)(k:IntKind)(a:Int):AV->Option AV
 | .int k' b=>bif mj op then zu op k a b else ok (hU k k') (wH op k a b)
 | _=>none
def GE(op:BinOp)(a:List UInt8):AV->Option AV
 | .str b=>match op with
   | .add=>ok (Nat.ble (a.length+b.length) 1000000) (some (.str (a++b)))
   | op=>MQ op (nO a b) (af a b)
 | _=>none
def yq(op:BinOp)(r:Option Bool):Option AV:=match op with
 | .eql=>ob r λb=>some (.bool b)
 | .neq=>ob r λb=>some (.bool !b)
 | _=>none
section
variable(P:eA)
def lu:AV->Bool
 | .any _=>false
 | _=>true
def ip(t:TypeId)(xo yo:Operand)(x y:AV):Bool:=lu x&&(lu y&&match x with
 | .agg _=>(ob (P.ty.get t) λe=>some (rt (some e.u)&&!e.guard)).getD false
 | .niliface=>match y with
   | .niliface=>nU xo || nU yo
   | _=>true
 | _=>true)
def EF(op:BinOp)(t:TypeId)(xo yo:Operand)(x y:AV):Option AV:=match x with
 | .int k a=>Gp op k a y
 | .str a=>GE op a y
 | x=>yq op (ok (ip P t xo yo x y) (Ip P 100 t x y))
def Th(op:UnOp)(x:AV):Option AV:=match x with
 | .int k n=>match op with
   | .neg=>gJ k (Int.sub 0 n)
   | .xor=>IL k (if k.signed then -1 else k.max) n
   | _=>none
 | .bool b=>match op with
   | .not=>some (.bool !b)
   | _=>none
 | _=>none
def cellsOf:aw->Option (List AV)
 | .cells cs _ _=>some cs
 | _=>none
def jG(C:bg)(o:aC)(id off n:Nat):Option (List AV):=ob (cellsOf (get C o id)) λcs=>iv cs off n
def nI(C:bg)(o:aC)(t:TypeId):AV->Option AV
 | .ptr id off=>ob (cellsOf (get C o id)) λcs=>gN P t cs off
 | _=>none
def wD(off:Nat)(vs:List AV):aw->Option aw
 | .cells cs true g=>ob (rS cs off vs) λcs'=>some (.cells cs' true g)
 | _=>none
def js(C:bg)(o:aC)(id off:Nat)(vs:List AV):Option aC:=ob (dP C o id) λx=>ob (wD off vs x) λx'=>some (dY C o id x')
def eF:List AV->Bool
 | []=>true
 | v::vs=>Gv v&&eF vs
def rV(C:bg)(o:aC)(t:TypeId)(v:AV):AV->Option aC
 | .ptr id off=>ob (fx P t) λn=>ok (Nat.beq (bP v).length n&&eF (bP v)) (js C o id off (bP v))
 | _=>none
def tE(hi:Nat):AV->Option Nat
 | .int _ (.ofNat n)=>ok (Nat.ble n hi) (some n)
 | _=>none
def dK(most:Nat)(dflt:Nat):Option AV->Option Nat
 | none=>some dflt
 | some v=>tE most v
def hN(id off size m h l:Nat):AV:=bif Nat.beq m l then .slice id off (h-l) (.known (m-l))else .slice id (off+l*size) (h-l) (.known (m-l))
def rR(s:List UInt8)(lo hi:Option AV):Option AV:=ob (dK s.length s.length hi) λh=>ob (dK h 0 lo) λl=>some (.str ((s.take h).drop l))
def rn(lo hi max:Option AV):Option AV:=ok (max.isNone || hi.isSome) (ob (dK 0 0 max) λ_=>ob (dK 0 0 hi) λ_=>ob (dK 0 0 lo) λ_=>some .nilslice)
def gQ(size id off len c:Nat)(lo hi max:Option AV):Option AV:=
 ok (max.isNone || hi.isSome) (ob (dK c c max) λm=>ob (dK m len hi) λh=>ob (dK h 0 lo) λl=>some (hN id off size m h l))
def mc(size id off k h l:Nat):Option AV:=
 bif Nat.beq l 0 then some (.slice id off h (.rest k))else ok (bm l h) (some (.slice id (off+l*size) (h-l) (.rest (k+l))))
def pg(size id off len k:Nat)(lo hi:Option AV):Option AV:=ob (dK len len hi) λh=>ob (dK h 0 lo) λl=>mc size id off k h l
def j5(size id off len:Nat)(lo hi:Option AV)(mx:AV):Option AV:=
 ok hi.isSome (ob (tE len mx) λm=>ob (dK m len hi) λh=>ob (dK h 0 lo) λl=>some (hN id off size m h l))
def kY(size id off len:Nat)(lo hi max:Option AV):dv->Option AV
 | .known c=>gQ size id off len c lo hi max
 | .rest k=>match max with
   | none=>pg size id off len k lo hi
   | some mx=>j5 size id off len lo hi mx
def mq:AV->Option Nat
 | .slice _ _ n _=>some n
 | .nilslice=>some 0
 | .str s=>some s.length
 | _=>none
def hH(b:UInt8):AV:=.int .u8 (.ofNat b.toNat)
def io(C:bg)(o:aC)(size n:Nat):AV->Option (List AV)
 | .slice id off len _=>ok (Nat.ble n len) (jG C o id off (n*size))
 | .nilslice=>ok (Nat.beq n 0) (some [])
 | .str s=>ok (Nat.ble n s.length) (some ((s.take n).map hH))
 | _=>none
def kV(C:bg)(o:aC)(size n:Nat)(cs:List AV):AV×aC:=(.slice (o.next C) 0 n (.rest 0),o.push (.cells cs true (some size)))
def rm(size n:Nat):aw->Option (List AV)
 | .cells cs true (some g)=>ok (Nat.beq g size&&Nat.beq cs.length n) (some cs)
 | _=>none
def jg(C:bg)(o:aC)(size n id off len c:Nat)(new:List AV):Option (AV×aC):=
 bif Nat.ble (len+n) c then ob (js C o id (off+len*size) new) λo'=>some (.slice id off (len+n) (.known c),o')
 else ob (jG C o id off (len*size)) λold=>some (kV C o size (len+n) (old++new))
def jU(C:bg)(o:aC)(size n id off len k:Nat)(new:List AV):Option (AV×aC):=
 ok (Nat.beq off 0&&Nat.beq k 0) (ob (dP C o id) λx=>ob (rm size (len*size) x) λcs=>some (kV C (dY C o id .dead) size (len+n) (cs++new)))
def appendCap(C:bg)(o:aC)(size n id off len:Nat)(new:List AV):dv->Option (AV×aC)
 | .known c=>jg C o size n id off len c new
 | .rest k=>jU C o size n id off len k new
def hI(C:bg)(o:aC)(size n:Nat)(new:List AV):AV->Option (AV×aC)
 | .nilslice=>some (kV C o size n new)
 | .slice id off len c=>appendCap C o size n id off len new c
 | _=>none
def jC:AV->Bool
 | .nilslice|.slice ..=>true
 | _=>false
def Km:AV->Bool
 | .slice _ _ len (.known c)=>Nat.ble len c
 | _=>true
def wN(size:Nat):AV->Bool
 | .str _=>Nat.beq size 1
 | _=>true
def Dj(sl n size:Nat):Bool:=Nat.ble (sl+n) 1000000&&bm 0 size&&Nat.ble size 1000
def o9(t:TypeId):Bool:=match P.inf t with
 | some i=>Nat.ble i.bytes 100000
 | none=>false
def lA(t:TypeId):Bool:=match P.und t with
 | some (.int _)=>false
 | some _=>true
 | none=>false
def lG(C:bg)(o:aC)(sType xType:TypeId)(s x:AV):Option (AV×aC):=
 ob (iU P sType) λelem=>ok (lA P xType&&o9 P elem&&jC s) (ob (fx P elem) λsize=>ob (jh P elem) λz=>ob (mq x) λn=>ob (mq s) λsl=>
  bif Nat.beq n 0 then ok (Km s) (some (s,o))else ok (Dj sl n size&&Nat.beq (bP z).length size&&wN size x) (ob (io C o size n x) λnew=>ok (eF new) (hI C o size n new s)))
def lN(f:Int->Int->Int)(k:IntKind)(acc:Int):List AV->Option AV
 | []=>some (.int k acc)
 | .int _ y::rest=>lN f k (f acc y) rest
 | _::_=>none
def ja(x y:Int):Int:=bif ab x y then x else y
def jc(x y:Int):Int:=bif ab y x then x else y
def CZ(x:AV):Option TypeDesc->Option AV
 | some .string=>match x with
   | .str s=>some (goInt s.length)
   | _=>none
 | some (.slice _)=>match x with
   | .slice _ _ n _=>some (goInt n)
   | .nilslice=>some (goInt 0)
   | _=>none
 | some (.array n _)=>some (goInt n)
 | _=>none
def BZ(x:AV):Option TypeDesc->Option AV
 | some (.slice _)=>match x with
   | .slice _ _ _ (.known n)=>some (goInt n)
   | .nilslice=>some (goInt 0)
   | _=>none
 | _=>none
def Fp(a b:Nat):Nat:=bif Nat.ble a b then a else b
def pj(C:bg)(o:aC)(n:Nat)(cs:List AV):AV->Option (AV×aC)
 | .nilslice=>some (goInt n,o)
 | .slice id off _ _=>ok (eF cs) (ob (js C o id off cs) λo'=>some (goInt n,o'))
 | _=>none
def vj(C:bg)(o:aC)(dType:TypeId)(d s:AV):Option (AV×aC):=
 ob (iU P dType) λelem=>ok (jC d) (ob (fx P elem) λsize=>ob (mq d) λdl=>ob (mq s) λsl=>
  ob (io C o size (Fp sl dl) s) λcs=>pj C o (Fp sl dl) cs d)
def fw(o:aC)(x:Option AV):Option (AV×aC):=ob x λv=>some (v,o)
def JP(f:Int->Int->Int):List AV->Option AV
 | .int k x::rest=>lN f k x rest
 | _=>none
def Ov(f:AV->AV->Option (AV×aC)):List AV->Option (AV×aC)
 | [a,b]=>f a b
 | _=>none
def one(f:AV->Option AV):List AV->Option AV
 | [a]=>f a
 | _=>none
def eQ(C:bg)(o:aC)(b:Builtin)(ts:List TypeId)(args:List AV):Option (AV×aC):=match b with
 | .len=>fw o (ob ts[0]? λt=>one (λx=>CZ x (P.und t)) args)
 | .cap=>fw o (ob ts[0]? λt=>one (λx=>BZ x (P.und t)) args)
 | .append=>ob ts[0]? λt=>ob ts[1]? λu=>Ov (λs x=>lG P C o t u s x) args
 | .copy=>ob ts[0]? λt=>Ov (λd s=>vj P C o t d s) args
 | .min=>fw o (JP ja args)
 | .max=>fw o (JP jc args)
 | _=>none
def rJ(x:AV):AV->Option Bool
 | .int k b=>match x with
   | .int k' a=>ok (hU k' k) (some (aa a b))
   | _=>none
 | .str b=>match x with
   | .str a=>some (af a b)
   | _=>none
 | .bool b=>match x with
   | .bool a=>some (aL a b)
   | _=>none
 | _=>none
def mH(k:AV):List (AV×AV)->Option (Option AV)
 | []=>some none
 | e::es=>ob (rJ k e.1) λr=>bif r then some (some e.2)else mH k es
def jN:aw->Option (List (AV×AV))
 | .map es=>some es
 | _=>none
def B1(k v:AV):List (AV×AV)->Option (List (AV×AV))
 | []=>none
 | e::es=>ob (rJ k e.1) λr=>bif r then some ((k,v)::es)else ob (B1 k v es) λes'=>some (e::es')
def qz(C:bg)(o:aC)(k v:AV):AV->Option (AV×aC)
 | .map id=>ob (dP C o id) λx=>ob (jN x) λes=>ob (mH k es) λr=>match r with
   | none=>some (bj,dY C o id (.map (es++[(k,v)])))
   | some _=>ob (B1 k v es) λes'=>some (bj,dY C o id (.map es'))
 | _=>none
def lS(ok:Bool)(v:AV)(there:Bool):AV:=bif ok then .tuple [v,.bool there]else v
def oF(C:bg)(o:aC)(elem:TypeId)(ok:Bool)(k:AV):AV->Option AV
 | .map id=>ob (jN (get C o id)) λes=>ob (mH k es) λr=>match r with
   | some v=>some (lS ok v true)
   | none=>ob (jh P elem) λz=>some (lS ok z false)
 | _=>none
def fh(ρ:Operand->Option AV):List Operand->Option (List AV)
 | []=>some []
 | x::xs=>ob (ρ x) λv=>ob (fh ρ xs) λvs=>some (v::vs)
def kG(ρ:Operand->Option AV):List (Nat×Operand)->Option (List (Nat×AV))
 | []=>some []
 | p::xs=>ob (ρ p.2) λv=>ob (kG ρ xs) λvs=>some ((p.1,v)::vs)
def rd(ρ:Operand->Option AV):Option Operand->Option (Option AV)
 | none=>some none
 | some x=>ob (ρ x) λv=>some (some v)
def qc(fields:Array Field)(i:Nat):Option (Nat×Nat):=ob fields[i]? λf=>ob (fx P f.type) λn=>some (f.offset,n)
def qt:List Field->Option (List (Nat×Nat))
 | []=>some []
 | f::fs=>ob (fx P f.type) λn=>ob (qt fs) λr=>some ((f.offset,n)::r)
def AE(a b:Option AV):AV->Option AV
 | .bool true=>a
 | .bool false=>b
 | _=>none
def jr(C:bg)(o:aC)(v:AV):Option (AV×aC):=ok (eF (bP v)) (some (.ptr (o.next C) 0,o.push (.cells (bP v) true none)))
def Ak(z:List AV)(ps:List (Nat×AV)):Option TypeDesc->Option AV
 | some (.struct fields)=>ob (qt P fields.toList) λpl=>ob (qi (λi=>pl[i]?) z ps) λcs=>some (.agg cs)
 | some (.array _ elem)=>ob (fx P elem) λn=>ob (qi (λi=>some (i*n,n)) z ps) λcs=>some (.agg cs)
 | _=>none
def wt(ρ:Operand->Option AV)(t:TypeId)(parts:List (Nat×Operand)):Option AV:=
 ob (jh P t) λz=>ob (kG ρ parts) λps=>Ak P (bP z) ps (P.und t)
def ga(C:bg)(ρ:Operand->Option AV)(o:aC)(t:TypeId)(len:Nat)(parts:List (Nat×Operand)):Option (AV×aC):=
 ob (iU P t) λelem=>ob (fx P elem) λn=>ob (jh P elem) λz=>ob (kG ρ parts) λps=>
  ok (Nat.ble (len*n) 10000&&Nat.beq (bP z).length n&&bm 0 n) (ob (qi (λi=>some (i*n,n)) (jb (bP z) len) ps) λcs=>
   ok (eF cs) (some (.slice (o.next C) 0 len (.known len),o.push (.cells cs true none))))
def kj(C:bg)(o:aC)(t:TypeId)(l c:AV):Option (AV×aC):=
 ob (iU P t) λelem=>ob (fx P elem) λn=>ob (jh P elem) λz=>ob (tE 10000 c) λcn=>ob (tE cn l) λln=>
  ok (Nat.beq (bP z).length n&&bm 0 n&&Nat.ble n 10000&&o9 P elem&&eF (bP z))
   (some (.slice (o.next C) 0 ln (.known cn),o.push (.cells (jb (bP z) cn) true none)))
def qm(n:Int):Option TypeDesc->Option AV
 | some (.int k)=>gJ k n
 | some .string=>some (.str (Utf8.encode n).data.toList)
 | _=>none
def jV:Option TypeDesc->Bool
 | some (.int .u8)=>true
 | _=>false
def lH(C:bg)(o:aC)(s:List UInt8):Option TypeDesc->Option (AV×aC)
 | some .string=>some (.str s,o)
 | some (.slice e)=>ok (jV (P.und e)&&Nat.ble s.length 1000000) (some (.slice (o.next C) 0 s.length (.rest 0),o.push (.cells (s.map hH) false none)))
 | _=>none
def rz:AV->Option UInt8
 | .int .u8 (.ofNat n)=>ok (bm n 256) (some (UInt8.ofNat n))
 | _=>none
def jJ:List AV->Option (List UInt8)
 | []=>some []
 | v::rest=>ob (rz v) λb=>ob (jJ rest) λs=>some (b::s)
def lM(C:bg)(o:aC)(id off len:Nat)(src dst:Option TypeDesc):Option AV:=
 ob (za src) λe=>ok (jV (P.und e)&&tB dst) (ob (jG C o id off len) λcs=>ob (jJ cs) λs=>some (.str s))
def ig(C:bg)(o:aC)(src dst:TypeId):AV->Option (AV×aC)
 | .int _ n=>ok (P.und src).isSome (fw o (qm n (P.und dst)))
 | .str s=>ok (tB (P.und src)) (lH P C o s (P.und dst))
 | .slice id off len _=>fw o (lM P C o id off len (P.und src) (P.und dst))
 | _=>none
def rM(t:TypeId)(v:AV):Option AV:=match P.und t with
 | some (.interface _)=>none
 | some _=>some (.iface t v)
 | none=>none
def nA(t:TypeId)(lo hi mx:Option AV):AV->Option AV
 | .ptr id off=>ob (yp P t) λne=>ob (fx P ne.2) λsize=>gQ size id off ne.1 ne.1 lo hi mx
 | .str s=>ok (tt P t&&mx.isNone) (rR s lo hi)
 | .nilslice=>ob (iU P t) λe=>ob (fx P e) λ_=>rn lo hi mx
 | .slice id off len c=>ob (iU P t) λe=>ob (fx P e) λsize=>kY size id off len lo hi mx c
 | _=>none
def E3(n:Nat):AV->Option AV
 | .ptr id off=>some (.ptr id (off+n))
 | _=>none
def m6(s:TypeId)(f:Nat)(x:AV):Option AV:=ob (qx P s) λfields=>ob (qc P fields f) λq=>ok (bm 0 q.2) (E3 q.1 x)
def z_(s:TypeId)(f:Nat):AV->Option AV
 | .agg cs=>ob (qx P s) λfields=>ob fields[f]? λfd=>gN P fd.type cs fd.offset
 | _=>none
def CN:AV->Option Nat
 | .int _ (.ofNat i)=>some i
 | _=>none
def iV(t:TypeId)(i:Nat):AV->Option AV
 | .ptr id off=>ob (yp P t) λne=>ok (bm i ne.1) (ob (fx P ne.2) λn=>some (.ptr id (off+i*n)))
 | .slice id off len _=>ob (iU P t) λe=>ok (bm i len) (ob (fx P e) λn=>some (.ptr id (off+i*n)))
 | _=>none
def ru(t:TypeId)(i:Nat):AV->Option AV
 | .agg cs=>ob (yp P t) λne=>ok (bm i ne.1) (ob (fx P ne.2) λn=>gN P ne.2 cs (i*n))
 | .str s=>ok (tt P t) (ob s[i]? λb=>some (hH b))
 | _=>none
def vV(C:bg)(o:aC)(t:TypeId)(m k v:AV):Option (AV×aC):=
 ob (Ck (P.und t)) λke=>ok (nZ k (P.und ke.1)) (qz C o k v m)
def xT(C:bg)(o:aC)(t:TypeId)(okv:Bool)(m k:AV):Option AV:=
 ob (Ck (P.und t)) λke=>ok (nZ k (P.und ke.1)) (oF P C o ke.2 okv k m)
def zD(C:bg)(o:aC)(t:TypeId):AV->Option (AV×aC)
 | .str s=>ok (tt P t) (some (.ptr (o.next C) 0,o.push (.siter s 0)))
 | _=>none
def y5(C:bg)(o:aC)(id:Nat)(s:List UInt8)(pos:Nat):AV×aC:=
 bif bm pos s.length then(.tuple [.bool true,goInt pos,CL .i32 .ofNat (Utf8.decode ⟨⟨s⟩⟩ pos).1],dY C o id (.siter s (pos+(Utf8.decode ⟨⟨s⟩⟩ pos).2)))
 else(.tuple [.bool false],o)
def nP(C:bg)(o:aC)(id:Nat):aw->Option (AV×aC)
 | .siter s pos=>some (y5 C o id s pos)
 | _=>none
def xW(C:bg)(o:aC):AV->Option (AV×aC)
 | .ptr id 0=>ob (dP C o id) λx=>nP C o id x
 | _=>none
def xw(i:Nat):AV->Option AV
 | .tuple vs=>vs[i]?
 | _=>none
def vi:AV->Option AV
 | .ptr id off=>some (.ptr id off)
 | .func f a b=>some (.func f a b)
 | _=>none
def ph(ρ:Operand->Option AV)(first captured:List Operand):Fn->Option AV
 | .func f=>ob (fh ρ first) λa=>ob (fh ρ captured) λb=>some (.func f a b)
 | _=>none
end
abbrev oQ:Type:=eA->bg->(Operand->Option AV)->aC->Option (AV×aC)
def o8(x:Operand):oQ:=λP C ρ o=>fw o (ρ x)
def sf(c a b:Operand):oQ:=λP C ρ o=>fw o (ob (ρ c) (AE (ρ a) (ρ b)))
def lX(t:TypeId):oQ:=λP C ρ o=>ob (jh P t) (jr C o)
def sj(x:Operand):oQ:=λP C ρ o=>ob (ρ x) (jr C o)
def qH(t:TypeId)(parts:Array (Nat×Operand)):oQ:=λP C ρ o=>fw o (wt P ρ t parts.toList)
def eK(t:TypeId)(len:Nat)(parts:Array (Nat×Operand)):oQ:=λP C ρ o=>ga P C ρ o t len parts.toList
def pq(t:TypeId)(a:Operand):oQ:=λP C ρ o=>fw o (ob (ρ a) (nI P C o t))
def lB(t:TypeId)(a x:Operand):oQ:=λP C ρ o=>ob (ρ a) λp=>ob (ρ x) λv=>ob (rV P C o t v p) λo'=>some (bj,o')
def j3(x:Operand):oQ:=λP C ρ o=>fw o (ob (ρ x) vi)
def x_(op:BinOp)(t:TypeId)(x y:Operand):oQ:=λP C ρ o=>fw o (ob (ρ x) λa=>ob (ρ y) λb=>EF P op t x y a b)
def El(op:UnOp)(x:Operand):oQ:=λP C ρ o=>fw o (ob (ρ x) (Th op))
def gd(src dst:TypeId)(x:Operand):oQ:=λP C ρ o=>ob (ρ x) (ig P C o src dst)
def qn(t:TypeId)(x:Operand):oQ:=λP C ρ o=>fw o (ob (ρ x) (rM P t))
def v_(fn:Fn)(first captured:Array Operand):oQ:=λP C ρ o=>fw o (ph ρ first.toList captured.toList fn)
def lI(r:Option Operand):oQ:=λP C ρ o=>ok r.isNone (some (.map (o.next C),o.push (.map [])))
def jd(t:TypeId)(m k x:Operand):oQ:=λP C ρ o=>ob (ρ m) λmv=>ob (ρ k) λkv=>ob (ρ x) λv=>vV P C o t mv kv v
def gj(t:TypeId)(l c:Operand):oQ:=λP C ρ o=>ob (ρ l) λlv=>ob (ρ c) λcv=>kj P C o t lv cv
def nS(t:TypeId)(x:Operand)(lo hi mx:Option Operand):oQ:=λP C ρ o=>fw o (ob (ρ x) λv=>ob (rd ρ lo) λl=>ob (rd ρ hi) λh=>ob (rd ρ mx) λm=>nA P t l h m v)
def jl(s:TypeId)(x:Operand)(f:Nat):oQ:=λP C ρ o=>fw o (ob (ρ x) (m6 P s f))
def qo(s:TypeId)(x:Operand)(f:Nat):oQ:=λP C ρ o=>fw o (ob (ρ x) (z_ P s f))
def ie(t:TypeId)(x ix:Operand):oQ:=λP C ρ o=>fw o (ob (ρ x) λv=>ob (ρ ix) λi=>ob (CN i) λn=>iV P t n v)
def n3(t:TypeId)(x ix:Operand):oQ:=λP C ρ o=>fw o (ob (ρ x) λv=>ob (ρ ix) λi=>ob (CN i) λn=>ru P t n v)
def k_(t:TypeId)(x ix:Operand)(okv:Bool):oQ:=λP C ρ o=>fw o (ob (ρ x) λm=>ob (ρ ix) λk=>xT P C o t okv m k)
def oN(t:TypeId)(x:Operand):oQ:=λP C ρ o=>ob (ρ x) (zD P C o t)
def ns(it:Operand)(s:Bool):oQ:=λP C ρ o=>ok s (ob (ρ it) (xW C o))
def lK(t:Operand)(i:Nat):oQ:=λP C ρ o=>fw o (ob (ρ t) (xw i))
def MZ:oQ:=λ_ _ _ _=>none
def fM:Op->oQ
 | .move x=>o8 x
 | .assign x=>o8 x
 | .pick c a b=>sf c a b
 | .alloc t=>lX t
 | .box _ x=>sj x
 | .build t parts=>qH t parts
 | .buildSlice t len parts=>eK t len parts
 | .load t a=>pq t a
 | .store t a x=>lB t a x
 | .nilCheck x=>j3 x
 | .binOp op t x y _=>x_ op t x y
 | .unOp op _ x=>El op x
 | .convert src dst x=>gd src dst x
 | .makeInterface t x=>qn t x
 | .makeFunc fn first captured=>v_ fn first captured
 | .makeMap _ r=>lI r
 | .insert t m k x=>jd t m k x
 | .mapUpdate t m k x=>jd t m k x
 | .makeSlice t l c=>gj t l c
 | .slice t x lo hi mx=>nS t x lo hi mx
 | .fieldAddr s x f=>jl s x f
 | .field s x f=>qo s x f
 | .indexAddr t x ix=>ie t x ix
 | .index t x ix=>n3 t x ix
 | .lookup t x ix okv=>k_ t x ix okv
 | .range t x=>oN t x
 | .next it s=>ns it s
 | .extract t i=>lK t i
 | _=>MZ
def zg(P:eA)(C:bg)(ρ:Operand->Option AV)(o:aC)(op:Op):Option (AV×aC):=fM op P C ρ o
def fU(lo:Nat):Nat->AV->Bool
 | 0,_=>false
 | d+1,v=>match v with
   | .ptr id _=>bm id lo
   | .slice id _ _ _=>bm id lo
   | .map id=>bm id lo
   | .yield id=>bm id lo
   | .func _ a b=>a.all (fU lo d)&&b.all (fU lo d)
   | .iface _ v=>fU lo d v
   | .agg cs=>cs.all (fU lo d)
   | .tuple cs=>cs.all (fU lo d)
   | _=>true
def aG(lo:Nat)(vs:List AV):Bool:=vs.all (fU lo 20)
inductive AX where
 | normal
 | exit (id:Nat)
 | ret
 deriving Inhabited
structure St where
 ts:Ts
 tn:Nat
 o:aC
 ds:List Nat
 ro:Option Nat
 deriving Inhabited
structure cx where
 G:Nat
 lend:FuncId->List Nat
 canon:FuncId->Bool
 orc:FuncId->bg->List AV->aC->Option (AV×aC)
 root:aC
inductive yJ where
 | free
 | alloc
 | load
 | look
 | call
 | bar
def Ky:Builtin->yJ
 | .len|.cap|.min|.max=>.free
 | _=>.bar
def Kc:Callee->yJ
 | .builtin b=>Ky b
 | .value _=>.call
 | _=>.bar
def bS:Op->yJ
 | .move _|.assign _|.pick ..|.build ..|.nilCheck _|.binOp ..|.unOp ..|.makeInterface ..|.makeFunc ..|.slice ..|.fieldAddr ..|.field ..|.extract ..|.indexAddr ..|.index ..=>.free
 | .alloc _|.box ..|.buildSlice ..=>.alloc
 | .load ..=>.load
 | .lookup ..|.convert ..=>.look
 | .call c=>Kc c.callee
 | _=>.bar
def kE:yJ->Bool
 | .free=>true
 | _=>false
def j9:yJ->Bool
 | .load=>true
 | _=>false
def df:AV->Option Nat
 | .ptr id _=>some id
 | .slice id _ _ _=>some id
 | .map id=>some id
 | _=>none
def dm(args:List AV):List Nat->List Nat
 | []=>[]
 | p::ps=>match ob args[p]? df with
   | some id=>id::dm args ps
   | none=>dm args ps
inductive fb where
 | none
 | reads (id:Nat)
 | bar (ids:List Nat)
def pw:Option Nat->fb
 | some id=>.bar [id]
 | none=>.bar []
def Ug:List Nat->fb
 | []=>.none
 | l=>.bar l
def Er:Option Nat->fb
 | some id=>.reads id
 | none=>.bar []
def Az(cfg:cx)(vs:List AV):AV->fb
 | .func f first captured=>Ug (dm (first++vs++captured) (cfg.lend f))
 | _=>.bar []
def Bo(ρ:Operand->Option AV)(args:List Operand):Builtin->fb
 | .len|.cap|.min|.max=>.none
 | _=>pw (ob args[0]? λx=>ob (ρ x) df)
def qb(cfg:cx)(ρ:Operand->Option AV)(args:List Operand):Callee->fb
 | .builtin b=>Bo ρ args b
 | .value f=>match ρ f with
   | some fv=>match fh ρ args with
     | some vs=>Az cfg vs fv
     | none=>.bar []
   | none=>.bar []
 | _=>.bar []
def Ew(cfg:cx)(ρ:Operand->Option AV)(op:Op):yJ->fb
 | .bar=>.bar []
 | _=>.none
def cU(cfg:cx)(ρ:Operand->Option AV):Op->fb
 | .load _ a=>Er (ob (ρ a) df)
 | .store _ a _=>pw (ob (ρ a) df)
 | .insert _ m _ _=>pw (ob (ρ m) df)
 | .mapUpdate _ m _ _=>pw (ob (ρ m) df)
 | .next it _=>pw (ob (ρ it) df)
 | .call c=>qb cfg ρ c.args.toList c.callee
 | op=>Ew cfg ρ op (bS op)
def kp(n:Nat):List Nat->Bool
 | []=>true
 | x::xs=>bm x n&&kp n xs
def qP(n:Nat):fb->Bool
 | .bar ids=>kp n ids
 | _=>true
def pZ(id:Nat):List Nat->Bool
 | []=>false
 | x::xs=>Nat.beq x id || pZ id xs
def Fm{α:Type}(k:Nat->α):Nat->α
 | 0=>k 0
 | n+1=>k (n+1)
def zZ{α:Type}(k:List Nat->α):List Nat->α
 | []=>k []
 | x::xs=>k (x::xs)
def jy(acc:List Nat)(n j:Nat):Nat:=bif bm j n then acc.getD (n-1-j) 0 else 0
def Tk(acc:List Nat)(n:Nat):List Edge->Nat->Nat
 | [],s=>s
 | e::es,s=>Tk acc n es (bif Region.binds .any e then s ||| 2^e.on ||| jy acc n e.on else s)
def mO:List Oper->List Nat
 | []=>[]
 | o::prev=>zZ (λacc=>Fm (λv=>v::acc) (Tk acc prev.length o.after.toList 0)) (mO prev)
def vM(acc:List Nat)(n i j:Nat):Bool:=(jy acc n j).testBit i
def wI(acc:List Nat)(n i j:Nat):Bool:=bif Nat.ble i j then vM acc n i j else vM acc n j i
def Pk:Operand->Option Tmp
 | .tmp t=>some t
 | _=>none
def zY(ops:Array Oper):Option (Nat×Bool)->Option Tmp
 | some jw=>ob ops[jw.1]? λo=>o.dst
 | none=>none
def kS(ops:Array Oper)(o:Oper):List Tmp:=o.dst.toList++(zY ops o.guard).toList++o.op.operands.toList.filterMap Pk
def JU(t:Tmp):Option Tmp->Bool
 | some d=>Nat.beq d t
 | none=>false
def GI(acc:List Nat)(n k:Nat)(t:Tmp):Nat->List Oper->Bool
 | _,[]=>true
 | j,o::rest=>(!JU t o.dst || Nat.beq j k || wI acc n j k)&&GI acc n k t (j+1) rest
def JD(ops:Array Oper)(acc:List Nat):Nat->List Oper->Bool
 | _,[]=>true
 | k,o::rest=>(kS ops o).all (λt=>GI acc ops.size k t 0 ops.toList)&&JD ops acc (k+1) rest
def AL(j:Nat):List Edge->Bool
 | []=>true
 | e::es=>(!Region.binds .any e || bm e.on j)&&AL j es
def BB:Nat->List Oper->Bool
 | _,[]=>true
 | j,o::rest=>AL j o.after.toList&&BB (j+1) rest
def AO(ops:Array Oper):Option (List Nat):=zZ (λacc=>ok (JD ops acc 0 ops.toList&&BB 0 ops.toList) (some acc)) (mO ops.toList.reverse)
def ow(j:Nat)(ids:List Nat):List (Nat×fb)->Bool
 | []=>true
 | e::rest=>(match e.2 with
   | .reads id=>!(Nat.beq e.1 j&&pZ id ids)
   | _=>true)&&ow j ids rest
def sP(acc:List Nat)(n:Nat)(log:List (Nat×fb))(i:Nat)(ids:List Nat):Nat->List Oper->Bool
 | _,[]=>true
 | j,o::rest=>(Nat.beq i j || kE (bS o.op) || wI acc n i j || (j9 (bS o.op)&&ow j ids log))&&sP acc n log i ids (j+1) rest
def oS(ops:Array Oper)(acc:List Nat)(log:List (Nat×fb)):List (Nat×fb)->Bool
 | []=>true
 | e::rest=>(match e.2 with
   | .bar ids=>sP acc ops.size log e.1 ids 0 ops.toList
   | _=>true)&&oS ops acc log rest
def vW(want:Bool):Value->Bool
 | .bool b=>bif want then b else !b
 | _=>false
def rZ(want:Bool):AV->Bool
 | .bool b=>bif want then b else !b
 | .any v=>vW want v
 | _=>false
def ov(ts:Ts)(want:Bool):Option Tmp->Bool
 | some t=>rZ want (ts.get t)
 | none=>false
def dV(ops:Array Oper)(ts:Ts):Option (Nat×Bool)->Bool
 | none=>true
 | some jw=>match ops[jw.1]? with
   | some o=>ov ts jw.2 o.dst
   | none=>false
def ii(st:St)(v:AV)(o:aC):Option Tmp->Option St
 | some d=>ok (bm d st.tn&&bm d 1000000) (some ⟨Ts.set 20 st.ts d v,st.tn,o,st.ds,st.ro⟩)
 | none=>some ⟨st.ts,st.tn,o,st.ds,st.ro⟩
section
variable(P:eA)(cfg:cx)(call:bg->FuncId->List AV->aC->Option (AV×aC))(rnd:bg->Nat->List AV->aC->Option (AV×aC))(C:bg)
def AN(vs:List AV)(o:aC):AV->Option (AV×aC)
 | .func f first captured=>call C f (first++vs++captured) o
 | .yield id=>rnd C id vs o
 | _=>none
def o_:bg->Nat->List AV->aC->Option (AV×aC):=λ_ _ _ _=>none
def og(ρ:Operand->Option AV)(o:aC)(c:Call):Option (AV×aC):=match c.callee with
 | .value f=>ob (ρ f) λfv=>ob (fh ρ c.args.toList) λvs=>AN call rnd C vs o fv
 | .builtin b=>ob (fh ρ c.args.toList) λvs=>eQ P C o b c.argTypes.toList vs
 | _=>none
def fq(ρ:Operand->Option AV)(o:aC):Op->Option (AV×aC)
 | .call c=>og P call rnd C ρ o c
 | op=>zg P C ρ o op
def yH(ops:Array Oper):List Oper->St->Option St
 | [],st=>some st
 | op::rest,st=>ob (bif dV ops st.ts op.guard then ob (fq P call rnd C (ea cfg.G st.ts) st.o op.op) λr=>ii st r.1 r.2 op.dst else ii st bj st.o op.dst) (yH ops rest)
def mG(ops:Array Oper):Nat->List Oper->St->List (Nat×fb)->Option (St×List (Nat×fb))
 | _,[],st,log=>some (st,log)
 | i,op::rest,st,log=>
   bif dV ops st.ts op.guard then ob (fq P call o_ C (ea cfg.G st.ts) st.o op.op) λr=>ob (ii st r.1 r.2 op.dst) λst'=>
    ok (qP (C.lo+st.o.n) (cU cfg (ea cfg.G st.ts) op.op)) (mG ops (i+1) rest st' ((i,cU cfg (ea cfg.G st.ts) op.op)::log))
   else ob (ii st bj st.o op.dst) λst'=>mG ops (i+1) rest st' ((i,.none)::log)
def iJ(callI:bg->FuncId->List AV->aC->Option (AV×aC))(ops:Array Oper)(draw:Bool)(st:St):Option St:=
 bif draw then ob (AO ops) λacc=>ob (mG P cfg call C ops 0 ops.toList st []) λr=>ok (oS ops acc r.2 r.2) (some r.1)
 else yH P cfg callI rnd C ops ops.toList st
def yv(st:St):List ResultVar->Option (List AV)
 | []=>some []
 | .tmp t::rest=>ob (yv st rest) λvs=>some (st.ts.get t::vs)
 | .cell a t::rest=>ob (nI P C st.o t (st.ts.get a)) λv=>ob (yv st rest) λvs=>some (v::vs)
end
def rY:List AV->AV
 | [v]=>v
 | vs=>.tuple vs
def fa(C:bg)(o:aC):List Nat->List (Nat×aw)
 | []=>[]
 | id::ids=>bif pZ id ids then fa C o ids else match dP C o id with
   | some x=>(id,x)::fa C o ids
   | none=>fa C o ids
def mC(C:bg)(o:aC):List (Nat×aw)->aC
 | []=>o
 | p::rest=>mC C (dY C o p.1 p.2) rest
def Cd:Nat->AV->Bool
 | 0,_=>false
 | d+1,v=>match v with
   | .yield _=>true
   | .func _ a b=>a.any (Cd d) || b.any (Cd d)
   | .iface _ v=>Cd d v
   | .agg cs=>cs.any (Cd d)
   | .tuple cs=>cs.any (Cd d)
   | _=>false
def xK(vs:List AV):Bool:=vs.any (Cd 5)
def m7(C:bg)(o:aC):List Nat->Option aC
 | []=>some o
 | d::ds=>match dP C o d with
   | some .defs=>m7 C (dY C o d .dead) ds
   | _=>none
section
variable(P:eA)(cfg:cx)
def aH(f:FuncId):Option (Func×Code):=ob (P.fn.get f) λfn=>ob fn.body λc=>some (fn,c)
def qj(C:bg)(fn:Func)(r:AX×St):Option (AV×aC):=match r.1 with
 | .exit _=>none
 | _=>ob (m7 C r.2.o r.2.ds) λo=>ob (yv P C ⟨r.2.ts,r.2.tn,o,[],none⟩ fn.results.toList) λvs=>some (rY vs,o)
def ij(fn:Func)(args:List AV)(o:aC):St:=⟨Ts.ofList 0 .nil args,max args.length fn.ntmps,o,[],none⟩
def wj(C:bg)(o:aC)(le:List (Nat×aw))(r:AV×aC):AV×aC:=match le with
 | []=>bif fU (C.lo+o.n) 20 r.1 then(r.1,o)else(r.1,⟨r.2.n+o.n,r.2.os++o.os,o.le⟩)
 | _::_=>(r.1,mC C ⟨r.2.n+o.n,r.2.os++o.os,o.le⟩ r.2.le)
def jt(code:bg->Code->St->Option (AX×St))(C:bg)(fn:Func)(c:Code)(args:List AV)(o:aC):Option (AV×aC):=
 ok (Nat.ble args.length 1000) (ob (code C c (ij fn args o)) (qj P C fn))
def vc(code:bg->Code->St->Option (AX×St))(C:bg)(fn:Func)(c:Code)(args:List AV)(o:aC)(le:List (Nat×aw)):Option (AV×aC):=
 ob (jt P code ⟨(C.lo,o)::C.B,C.lo+o.n⟩ fn c args ⟨0,[],le⟩) λr=>some (wj C o le r)
def tP(code:bg->Code->St->Option (AX×St))(fn:Func)(c:Code)(args:List AV):Option AV:=
 ob (jt P code ⟨[(0,cfg.root)],cfg.root.n⟩ fn c args ⟨0,[],[]⟩) λr=>ok (fU cfg.root.n 20 r.1) (some r.1)
def yF(code:bg->Code->St->Option (AX×St))(C:bg)(inl:Bool)(args:List AV)(o:aC)(le:List Nat)(fc:Func×Code):Option (AV×aC):=
 bif inl&&xK args then jt P code C fc.1 fc.2 args o else vc P code C fc.1 fc.2 args o (fa C o le)
def yc(inl:Bool)(code:bg->Code->St->Option (AX×St))(C:bg)(f:FuncId)(args:List AV)(o:aC):Option (AV×aC):=
 ob (aH P f) λfc=>bif cfg.canon f&&aG cfg.root.n args then ob (tP P cfg code fc.1 fc.2 args) λv=>some (v,o)
  else yF P code C inl args o (dm args (cfg.lend f)) fc
def jH(inl:Bool)(code:bg->Code->St->Option (AX×St))(C:bg)(f:FuncId)(args:List AV)(o:aC):Option (AV×aC):=match cfg.orc f C args o with
 | some r=>some r
 | none=>yc P cfg inl code C f args o
def Hm:LoopState->Bool
 | .ready=>true
 | _=>false
def Kz:LoopState->Bool
 | .busy=>true
 | _=>false
def Bv(tn:Nat)(ts:Ts):List Tmp->List AV->Option Ts
 | [],[]=>some ts
 | t::ps,v::vs=>ok (bm t tn&&bm t 1000000) (Bv tn (Ts.set 20 ts t v) ps vs)
 | _,_=>none
def mS(C:bg)(o:aC)(id:Nat):Option vT:=match dP C o id with
 | some (.loop r)=>some r
 | _=>none
def jW:AX->Option Code
 | .normal=>none
 | .exit id=>some (.exit id)
 | .ret=>some .ret
def jL:AX->LoopState
 | .normal=>.ready
 | _=>.done
def nh:AX->Bool
 | .normal=>true
 | _=>false
def pF(C:bg)(id:Nat)(x:AX×St):Option (AV×aC):=
 ob (mS C x.2.o id) λr=>some (.bool (nh x.1),dY C x.2.o id (.loop ⟨jL x.1,jW x.1,r.ts,r.tn,r.params,r.assign,r.body,r.defs⟩))
def kK(code:bg->Code->St->Option (AX×St))(C:bg)(id:Nat)(body:Code)(x:AX×St):Option (AV×aC):=
 ok (nh x.1) (ob (mS C x.2.o id) λr=>ok (Hm r.state)
  (ob (code C body ⟨x.2.ts,x.2.tn,dY C x.2.o id (.loop ⟨.busy,r.pend,r.ts,r.tn,r.params,r.assign,r.body,r.defs⟩),x.2.ds,x.2.ro⟩) (pF C id)))
def mX(code:bg->Code->St->Option (AX×St))(C:bg)(id:Nat)(args:List AV)(o:aC):Option (AV×aC):=
 ob (mS C o id) λr=>ob (Bv r.tn r.ts r.params.toList args) λts=>ob (code C r.assign ⟨ts,r.tn,o,[],some id⟩) (kK code C id r.body)
def pO(f:St->Option (AX×St))(r:AX×St):Option (AX×St):=match r.1 with
 | .normal=>f r.2
 | _=>some r
def jA(id:Nat)(r:AX×St):AX×St:=match r.1 with
 | .exit j=>bif Nat.beq j id then(.normal,r.2)else r
 | _=>r
def Dq(f:Code->Option (AX×St))(a b:Code):AV->Option (AX×St)
 | .bool true=>f a
 | .bool false=>f b
 | _=>none
end
abbrev kq:Type:=eA->cx->(bg->Code->St->Option (AX×St))->bg->St->Option (AX×St)
def Ko:kq:=λ_ _ _ _ st=>some (.normal,st)
def Jp(a b:Code):kq:=λ_ _ code C st=>ob (code C a st) (pO (code C b))
def Bz(c:Operand)(a b:Code):kq:=λ_ cfg code C st=>ob (ea cfg.G st.ts c) (Dq (λc=>code C c st) a b)
def xh(id:Nat)(b:Code):kq:=λ_ _ code C st=>ob (code C b st) λr=>some (jA id r)
def Bn(b:Code):kq:=λ_ _ code C st=>ob (code C b st) (pO (code C (.loop b)))
def D5(b:Code):kq:=λ_ _ code C st=>code C b st
def Rz(id:Nat):kq:=λ_ _ _ _ st=>some (.exit id,st)
def W1:kq:=λ_ _ _ _ st=>some (.ret,st)
def nu(ops:Array Oper)(draw:Bool):kq:=λP cfg code C st=>ob (iJ P cfg (jH P cfg false code) (mX code) C (jH P cfg true code) ops draw st) λst'=>some (.normal,st')
def lZ(C:bg)(st:St):Option (Nat×aC×List Nat):=match st.ro with
 | none=>some (st.o.next C,st.o.push .defs,st.o.next C::st.ds)
 | some i=>ob (mS C st.o i) λr=>some (r.defs,st.o,st.ds)
def BE:Option Code->Option AX
 | none=>some .normal
 | some .ret=>some .ret
 | some (.exit id)=>some (.exit id)
 | some _=>none
def sk(C:bg)(st:St)(l:Nat)(ds:List Nat)(r:AV×aC):Option (AX×St):=
 ob (mS C r.2 l) λq=>ok (!Kz q.state) (ob (BE q.pend) λx=>some (x,⟨st.ts,st.tn,dY C r.2 l (.loop ⟨.exhausted,q.pend,q.ts,q.tn,q.params,q.assign,q.body,q.defs⟩),ds,st.ro⟩))
def rc(P:eA)(code:bg->Code->St->Option (AX×St))(C:bg)(l:Nat)(o:aC):AV->Option (AV×aC)
 | .func f first captured=>ob (aH P f) λfc=>jt P code C fc.1 fc.2 (first++[.yield l]++captured) o
 | _=>none
def xd(g:Operand)(ps:Array Tmp)(assign body:Code):kq:=λP cfg code C st=>
 ob (ea cfg.G st.ts g) λgv=>ob (lZ C st) λe=>
  ob (rc P code C (e.2.1.next C) (e.2.1.push (.loop ⟨.ready,none,st.ts,st.tn,ps,assign,body,e.1⟩)) gv) (sk C st (e.2.1.next C) e.2.2)
def Q3:kq:=λ_ _ _ _ _=>none
def eO:Code->kq
 | .skip=>Ko
 | .label _=>Ko
 | .seq a b=>Jp a b
 | .cond c a b=>Bz c a b
 | .block id b=>xh id b
 | .loop b=>Bn b
 | .scope b=>D5 b
 | .exit id=>Rz id
 | .ret=>W1
 | .region _ ops draw=>nu ops draw
 | .rangeFunc g ps assign body=>xd g ps assign body
 | _=>Q3
def ec(P:eA)(cfg:cx):Nat->bg->Code->St->Option (AX×St)
 | 0,_,_,_=>none
 | n+1,C,c,st=>eO c P cfg (ec P cfg n) C st
end Go.Ev
