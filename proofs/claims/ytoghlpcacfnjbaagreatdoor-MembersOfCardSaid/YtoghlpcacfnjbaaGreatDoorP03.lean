import GoSem.Step
set_option linter.all false
set_option maxRecDepth 100000
set_option maxHeartbeats 4000000
namespace Go.Ev
open Go
inductive eZ where
 | known (n:Nat)
 | rest (k:Nat)
 deriving Inhabited
inductive AV where
 | bool (b:Bool)
 | int (k:IntKind) (n:Int)
 | str (s:List UInt8)
 | ptr (id off:Nat)
 | nilptr
 | slice (id off len:Nat) (cap:eZ)
 | nilslice
 | func (f:FuncId) (first captured:List AV)
 | nilfunc
 | iface (t:TypeId) (v:AV)
 | niliface
 | agg (cells:List AV)
 | tuple (vs:List AV)
 | map (id:Nat)
 | nilmap
 | yield (id:Nat)
 | any (v:Value)
 deriving Inhabited
def bo:AV:=.tuple []
inductive Ts where
 | nil
 | node (v:AV) (l r:Ts)
 deriving Inhabited
def Ts.get:Ts->Nat->AV
 | .nil,_=>bo
 | .node v l r,i=>bif Nat.beq i 0 then v else bif Nat.beq (i%2) 1 then l.get (i/2)else r.get (i/2-1)
def Ts.val:Ts->AV
 | .nil=>bo
 | .node v _ _=>v
def Ts.left:Ts->Ts
 | .nil=>.nil
 | .node _ l _=>l
def Ts.right:Ts->Ts
 | .nil=>.nil
 | .node _ _ r=>r
def Ts.set:Nat->Ts->Nat->AV->Ts
 | 0,t,_,_=>t
 | d+1,t,i,v=>bif Nat.beq i 0 then .node v t.left t.right
   else bif Nat.beq (i%2) 1 then .node t.val (Ts.set d t.left (i/2) v) t.right else .node t.val t.left (Ts.set d t.right (i/2-1) v)
def Ts.ofList(i:Nat)(t:Ts):List AV->Ts
 | []=>t
 | v::vs=>Ts.ofList (i+1) (Ts.set 20 t i v) vs
structure zZ where
 state:LoopState
 pend:Option Code
 ts:Ts
 tn:Nat
 params:Array Tmp
 assign:Code
 body:Code
 defs:Nat
inductive aE where
 | cells (cs:List AV) (rw:Bool) (grow:Option Nat)
 | map (es:List (AV×AV))
 | siter (s:List UInt8) (pos:Nat)
 | loop (r:zZ)
 | defs
 | dead
 deriving Inhabited
structure aC where
 n:Nat
 os:List aE
 le:List (Nat×aE)
 deriving Inhabited
structure bg where
 B:List (Nat×aC)
 lo:Nat
def ob{α β:Type}(x:Option α)(f:α->Option β):Option β:=match x with
 | none=>none
 | some a=>f a
def ok{α:Type}(b:Bool)(x:Option α):Option α:=bif b then x else none
def y9:List aE->Nat->aE->List aE
 | [],_,_=>[]
 | _::os,0,x=>x::os
 | y::os,n+1,x=>y::y9 os n x
def aC.at(o:aC)(i:Nat):aE:=o.os.getD (o.n-1-i) .dead
def aC.put(o:aC)(i:Nat)(x:aE):aC:=⟨o.n,y9 o.os (o.n-1-i) x,o.le⟩
def aC.push(o:aC)(x:aE):aC:=⟨o.n+1,x::o.os,o.le⟩
def fg:List (Nat×aE)->Nat->Option aE
 | [],_=>none
 | p::rest,id=>bif Nat.beq p.1 id then some p.2 else fg rest id
def xj:List (Nat×aE)->Nat->aE->List (Nat×aE)
 | [],_,_=>[]
 | p::rest,id,x=>bif Nat.beq p.1 id then(id,x)::rest else p::xj rest id x
def aC.next(C:bg)(o:aC):Nat:=C.lo+o.n
def gy:List (Nat×aC)->Nat->aE
 | [],_=>.dead
 | p::rest,id=>bif Nat.ble p.1 id then p.2.at (id-p.1)else match fg p.2.le id with
   | some x=>x
   | none=>gy rest id
def get(C:bg)(o:aC)(id:Nat):aE:=gy ((C.lo,o)::C.B) id
def dW(C:bg)(o:aC)(id:Nat):Option aE:=bif Nat.ble C.lo id then some (o.at (id-C.lo))else fg o.le id
def eF(C:bg)(o:aC)(id:Nat)(x:aE):aC:=bif Nat.ble C.lo id then o.put (id-C.lo) x else⟨o.n,o.os,xj o.le id x⟩
def bU:AV->List AV
 | .agg cs=>cs
 | .any v=>v.cells.toList.map .any
 | v=>[v]
def LY:AV->Bool
 | .agg _|.tuple _|.any _=>false
 | _=>true
def MX:Value->Option AV
 | .bool b=>some (.bool b)
 | .int k n=>some (.int k n)
 | .string s=>some (.str s.data.toList)
 | .pointer none=>some .nilptr
 | .slice none 0 0=>some .nilslice
 | .map none=>some .nilmap
 | .nilFunc=>some .nilfunc
 | .nilIface=>some .niliface
 | _=>none
def N7:List Value->Option (List AV)
 | []=>some []
 | v::vs=>ob (MX v) λa=>ob (N7 vs) λsa0=>some (a::sa0)
def Nm:Value->Option AV
 | .agg cs=>ob (N7 cs.toList) λsa0=>some (.agg sa0)
 | v=>MX v
def kS:IntKind->Nat
 | .i8=>0|.i16=>1|.i32=>2|.i64=>3|.u8=>4|.u16=>5|.u32=>6|.u64=>7
def gN(a b:IntKind):Bool:=Nat.beq (kS a) (kS b)
def aW(a b:Nat):Bool:=Nat.ble (a+1) b
def ab:Int->Int->Bool
 | .ofNat a,.ofNat b=>Nat.ble a b
 | .negSucc _,.ofNat _=>true
 | .ofNat _,.negSucc _=>false
 | .negSucc a,.negSucc b=>Nat.ble b a
def aa:Int->Int->Bool
 | .ofNat a,.ofNat b=>Nat.beq a b
 | .negSucc a,.negSucc b=>Nat.beq a b
 | _,_=>false
def bW:Bool->Bool->Bool
 | true,b=>b
 | false,b=>!b
def dP:IntKind->Int
 | .i8=>-128|.i16=>-32768|.i32=>-2147483648|.i64=>-9223372036854775808
 | _=>0
def dR:IntKind->Int
 | .i8=>127|.i16=>32767|.i32=>2147483647|.i64=>9223372036854775807
 | .u8=>255|.u16=>65535|.u32=>4294967295|.u64=>18446744073709551615
def Cb(k:IntKind)(n:Int):Int:=bif ab (dP k) n&&ab n (dR k)then n else k.wrap n
def Hs(k:IntKind)(c:Nat->Int):Nat->AV
 | 0=>.int k (c 0)
 | m+1=>.int k (c (m+1))
def GQ(k:IntKind):Int->AV
 | .ofNat n=>Hs k .ofNat n
 | .negSucc n=>Hs k .negSucc n
def iN(k:IntKind)(n:Int):Option AV:=some (GQ k (Cb k n))
def goInt(n:Nat):AV:=Hs .i64 .ofNat n
def jW(cs:List AV)(off n:Nat):Option (List AV):=ok (Nat.beq ((cs.drop off).take n).length n) (some ((cs.drop off).take n))
def vu:List AV->List AV->Option (List AV)
 | cs,[]=>some cs
 | [],_::_=>none
 | _::cs,v::vs=>ob (vu cs vs) λr=>some (v::r)
def xV:List AV->Nat->List AV->Option (List AV)
 | cs,0,vs=>vu cs vs
 | [],_+1,_=>none
 | c::cs,n+1,vs=>ob (xV cs n vs) λr=>some (c::r)
def vE(place:Nat->Option (Nat×Nat))(cells:List AV):List (Nat×AV)->Option (List AV)
 | []=>some cells
 | p::rest=>ob (place p.1) λq=>ok (Nat.beq (bU p.2).length q.2) (ob (xV cells q.1 (bU p.2)) λr=>vE place r rest)
def m6(zero:List AV):Nat->List AV
 | 0=>[]
 | n+1=>zero++m6 zero n
def af:List UInt8->List UInt8->Bool
 | [],[]=>true
 | a::x,b::y=>Nat.beq a.toNat b.toNat&&af x y
 | _,_=>false
def rt:List UInt8->List UInt8->Bool
 | _,[]=>false
 | [],_::_=>true
 | a::x,b::y=>aW a.toNat b.toNat || (Nat.beq a.toNat b.toNat&&rt x y)
inductive Tb(α:Type) where
 | nil
 | node (v:Option α) (l r:Tb α)
def Tb.get{α:Type}:Tb α->Nat->Option α
 | .nil,_=>none
 | .node v l r,i=>bif Nat.beq i 0 then v else bif Nat.beq (i%2) 1 then l.get (i/2)else r.get (i/2-1)
structure TE where
 i:TypeInfo
 u:TypeDesc
 guard:Bool
 stood:Bool
structure fb where
 ty:Tb TE
 fn:Tb Func
section
variable(P:fb)
def fb.und(t:TypeId):Option TypeDesc:=ob (P.ty.get t) λe=>some e.u
def fb.inf(t:TypeId):Option TypeInfo:=ob (P.ty.get t) λe=>some e.i
def gO(t:TypeId):Option Nat:=ob (P.ty.get t) λe=>some e.i.size
def wR:Option TypeDesc->Bool
 | some (.struct _)|some (.array _ _)=>true
 | _=>false
def kW(t:TypeId):Option AV:=ob (P.inf t) λi=>ob i.zero Nm
def CY:Option TypeDesc->Option TypeId
 | some (.slice e)=>some e
 | _=>none
def kx(t:TypeId):Option TypeId:=CY (P.und t)
def Qn:Option TypeDesc->Option (Nat×TypeId)
 | some (.array n e)=>some (n,e)
 | _=>none
def BR(t:TypeId):Option (Nat×TypeId):=Qn (P.und t)
def oT:Option TypeDesc->Option (Array Field)
 | some (.struct fs)=>some fs
 | _=>none
def wq(t:TypeId):Option (Array Field):=oT (P.und t)
def Q7:Option TypeDesc->Option IntKind
 | some (.int k)=>some k
 | _=>none
def Qd(t:TypeId):Option IntKind:=Q7 (P.und t)
def yY:Option TypeDesc->Bool
 | some .string=>true
 | _=>false
def za(t:TypeId):Bool:=yY (P.und t)
def In:Option TypeDesc->Bool
 | some .bool=>true
 | _=>false
def DJ:Option TypeDesc->Bool
 | some (.interface _)=>true
 | _=>false
def Hy:Option TypeDesc->Option (TypeId×TypeId)
 | some (.map k e)=>some (k,e)
 | _=>none
def rv(k:AV):Option TypeDesc->Bool
 | some (.int _)=>match k with
   | .int _ _=>true
   | _=>false
 | some .string=>match k with
   | .str _=>true
   | _=>false
 | some .bool=>match k with
   | .bool _=>true
   | _=>false
 | _=>false
def iQ(t:TypeId)(cs:List AV)(off:Nat):Option AV:=
 ob (P.und t) λd=>bif wR (some d)then ob (gO P t) λn=>ob (jW cs off n) λr=>some (.agg r)else cs[off]?
def iR(cmp:TypeId->AV->AV->Option Bool)(xs ys:List AV):List Field->Option Bool
 | []=>some true
 | f::fs=>ok (!(f.name == "_")) (ob (iQ P f.type xs f.offset) λa=>ob (iQ P f.type ys f.offset) λb=>ob (cmp f.type a b) λr=>
   bif r then iR cmp xs ys fs else some false)
def kz(cmp:AV->AV->Option Bool)(elem:TypeId)(n:Nat)(xs ys:List AV)(i:Nat):Nat->Option Bool
 | 0=>some true
 | k+1=>ob (iQ P elem xs (i*n)) λa=>ob (iQ P elem ys (i*n)) λb=>ob (cmp a b) λr=>
   bif r then kz cmp elem n xs ys (i+1) k else some false
def tA:AV->Bool
 | .nilptr|.nilslice|.nilmap|.nilfunc|.niliface=>true
 | _=>false
def CS:AV->Nat
 | .nilptr|.ptr ..=>1
 | .nilslice|.slice ..=>2
 | .nilmap|.map _=>3
 | .nilfunc|.func ..=>4
 | .niliface|.iface ..=>5
 | _=>0
def FM:Option TypeDesc->Nat
 | some (.pointer _)=>1
 | some (.slice _)=>2
 | some (.map _ _)=>3
 | some (.func ..)=>4
 | some (.interface _)=>5
 | _=>9
def CW(d:Option TypeDesc)(x y:AV):Option Bool:=
 ok (Nat.beq (CS x) (FM d)&&Nat.beq (CS y) (FM d)&&(tA x || tA y)) (some (tA x&&tA y))
def BL(t:TypeId)(a:Bool):AV->Option Bool
 | .bool b=>ok (In (P.und t)) (some (bW a b))
 | _=>none
def EV(t:TypeId)(k:IntKind)(a:Int):AV->Option Bool
 | .int k' b=>ok ((Qd P t).isSome&&gN k k') (some (aa a b))
 | _=>none
def ET(t:TypeId)(a:List UInt8):AV->Option Bool
 | .str b=>ok (za P t) (some (af a b))
 | _=>none
def AG(cmp:TypeId->AV->AV->Option Bool)(t:TypeId)(xs ys:List AV):Option TypeDesc->Option Bool
 | some (.struct fields)=>ob (P.ty.get t) λe=>ok (!e.stood) (iR P cmp xs ys fields.toList)
 | some (.array len elem)=>ob (gO P elem) λn=>kz P (cmp elem) elem n xs ys 0 len
 | _=>none
def DD(cmp:TypeId->AV->AV->Option Bool)(t:TypeId)(xs:List AV):AV->Option Bool
 | .agg ys=>AG P cmp t xs ys (P.und t)
 | _=>none
def nX(cmp:TypeId->AV->AV->Option Bool)(t a:TypeId)(u:AV)(y:AV):Option Bool:=match y with
 | .iface b v=>ok (DJ (P.und t)) (bif Nat.beq a b then ob (P.inf a) λi=>ok i.comparable (cmp a u v)else some false)
 | y=>CW (P.und t) (.iface a u) y
def Md(cmp:TypeId->AV->AV->Option Bool)(t:TypeId)(x y:AV):Option Bool:=match x with
 | .bool a=>BL P t a y
 | .int k a=>EV P t k a y
 | .str a=>ET P t a y
 | .agg xs=>DD P cmp t xs y
 | .iface a u=>nX P cmp t a u y
 | x=>CW (P.und t) x y
def Of:Nat->TypeId->AV->AV->Option Bool
 | 0,_,_,_=>none
 | d+1,t,x,y=>Md P (Of d) t x y
end
def e9(G:Nat)(ts:Ts):Operand->Option AV
 | .tmp t=>some (ts.get t)
 | .const v=>Nm v
 | .global g=>ok (aW g G) (some (.ptr g 0))
 | .func f=>some (.func f [] [])
def rH:Operand->Bool
 | .const _=>true
 | _=>false
def Sf(op:BinOp)(lt eq:Bool):Option AV:=match op with
 | .eql=>some (.bool eq)
 | .neq=>some (.bool !eq)
 | .lss=>some (.bool lt)
 | .leq=>some (.bool (lt || eq))
 | .gtr=>some (.bool !(lt || eq))
 | .geq=>some (.bool !lt)
 | _=>none
abbrev nA:Type:=IntKind->Int->Int->Option AV
def Tg:nA:=λk x y=>iN k (BitVec.ofInt k.bits x &&& BitVec.ofInt k.bits y).toNat
def Z2:nA:=λk x y=>iN k (BitVec.ofInt k.bits x ||| BitVec.ofInt k.bits y).toNat
def NR:nA:=λk x y=>iN k (BitVec.ofInt k.bits x ^^^ BitVec.ofInt k.bits y).toNat
def GB:nA:=λk x y=>iN k (BitVec.ofInt k.bits x &&& ~~~BitVec.ofInt k.bits y).toNat
def TV:nA:=λk a b=>iN k (Int.add a b)
def V7:nA:=λk a b=>iN k (Int.sub a b)
def V8:nA:=λk a b=>iN k (Int.mul a b)
def QG:nA:=λk a b=>ok (!(aa b 0)) (iN k (Int.tdiv a b))
def Rz:nA:=λk a b=>ok (!(aa b 0)) (some (GQ k (Int.tmod a b)))
def RA:nA:=λ_ a b=>some (.bool (aa a b))
def PP:nA:=λ_ a b=>some (.bool !(aa a b))
def SS:nA:=λ_ a b=>some (.bool !(ab b a))
def Qh:nA:=λ_ a b=>some (.bool (ab a b))
def Sx:nA:=λ_ a b=>some (.bool !(ab a b))
def SJ:nA:=λ_ a b=>some (.bool (ab b a))
def Ce:nA:=λ_ _ _=>none
def A3:BinOp->nA
 | .add=>TV
 | .sub=>V7
 | .mul=>V8
 | .quo=>QG
 | .rem=>Rz
 | .and=>Tg
 | .or=>Z2
 | .xor=>NR
 | .andNot=>GB
 | .eql=>RA
 | .neq=>PP
 | .lss=>SS
 | .leq=>Qh
 | .gtr=>Sx
 | .geq=>SJ
 | .shl=>Ce
 | .shr=>Ce
def Bc(y:Int)(k:IntKind):Nat:=min y.toNat k.bits
def oR:BinOp->Bool
 | .shl|.shr=>true
 | _=>false
def DV(op:BinOp)(k:IntKind)(a b:Int):Option AV:=ok (ab 0 b) (match op with
 | .shl=>iN k (a*2^Bc b k)
 | .shr=>some (GQ k (a.fdiv (2^Bc b k)))
 | _=>none)
def Km(op:BinOp)(k:IntKind)(a:Int):AV->Option AV
 | .int k' b=>bif oR op then DV op k a b else ok (gN k k') (A3 op k a b)
 | _=>none
def L8(op:BinOp)(a:List UInt8):AV->Option AV
 | .str b=>match op with
   | .add=>ok (Nat.ble (a.length+b.length) 1000000) (some (.str (a++b)))
   | op=>Sf op (rt a b) (af a b)
 | _=>none
def CG(op:BinOp)(r:Option Bool):Option AV:=match op with
 | .eql=>ob r λb=>some (.bool b)
 | .neq=>ob r λb=>some (.bool !b)
 | _=>none
section
variable(P:fb)
def ov:AV->Bool
 | .any _=>false
 | _=>true
def jM(t:TypeId)(xo yo:Operand)(x y:AV):Bool:=ov x&&(ov y&&match x with
 | .agg _=>(ob (P.ty.get t) λe=>some (wR (some e.u)&&!e.guard)).getD false
 | .niliface=>match y with
   | .niliface=>rH xo || rH yo
   | _=>true
 | _=>true)
def Jv(op:BinOp)(t:TypeId)(xo yo:Operand)(x y:AV):Option AV:=match x with
 | .int k a=>Km op k a y
 | .str a=>L8 op a y
 | x=>CG op (ok (jM P t xo yo x y) (Of P 100 t x y))
def Vf(op:UnOp)(x:AV):Option AV:=match x with
 | .int k n=>match op with
   | .neg=>iN k (Int.sub 0 n)
   | .xor=>NR k (if k.signed then -1 else k.max) n
   | _=>none
 | .bool b=>match op with
   | .not=>some (.bool !b)
   | _=>none
 | _=>none
def cellsOf:aE->Option (List AV)
 | .cells cs _ _=>some cs
 | _=>none
def mc(C:bg)(o:aC)(id off n:Nat):Option (List AV):=ob (cellsOf (get C o id)) λcs=>jW cs off n
def rJ(C:bg)(o:aC)(t:TypeId):AV->Option AV
 | .ptr id off=>ob (cellsOf (get C o id)) λcs=>iQ P t cs off
 | _=>none
def A8(off:Nat)(vs:List AV):aE->Option aE
 | .cells cs true g=>ob (xV cs off vs) λcs'=>some (.cells cs' true g)
 | _=>none
def ly(C:bg)(o:aC)(id off:Nat)(vs:List AV):Option aC:=ob (dW C o id) λx=>ob (A8 off vs x) λx'=>some (eF C o id x')
def ff:List AV->Bool
 | []=>true
 | v::vs=>LY v&&ff vs
def yz(C:bg)(o:aC)(t:TypeId)(v:AV):AV->Option aC
 | .ptr id off=>ob (gO P t) λn=>ok (Nat.beq (bU v).length n&&ff (bU v)) (ly C o id off (bU v))
 | _=>none
def yX(hi:Nat):AV->Option Nat
 | .int _ (.ofNat n)=>ok (Nat.ble n hi) (some n)
 | _=>none
def dT(most:Nat)(dflt:Nat):Option AV->Option Nat
 | none=>some dflt
 | some v=>yX most v
def js(id off size m h l:Nat):AV:=bif Nat.beq m l then .slice id off (h-l) (.known (m-l))else .slice id (off+l*size) (h-l) (.known (m-l))
def xn(s:List UInt8)(lo hi:Option AV):Option AV:=ob (dT s.length s.length hi) λh=>ob (dT h 0 lo) λl=>some (.str ((s.take h).drop l))
def xT(lo hi max:Option AV):Option AV:=ok (max.isNone || hi.isSome) (ob (dT 0 0 max) λ_=>ob (dT 0 0 hi) λ_=>ob (dT 0 0 lo) λ_=>some .nilslice)
def i_(size id off len c:Nat)(lo hi max:Option AV):Option AV:=
 ok (max.isNone || hi.isSome) (ob (dT c c max) λm=>ob (dT m len hi) λh=>ob (dT h 0 lo) λl=>some (js id off size m h l))
def pz(size id off k h l:Nat):Option AV:=
 bif Nat.beq l 0 then some (.slice id off h (.rest k))else ok (aW l h) (some (.slice id (off+l*size) (h-l) (.rest (k+l))))
def sH(size id off len k:Nat)(lo hi:Option AV):Option AV:=ob (dT len len hi) λh=>ob (dT h 0 lo) λl=>pz size id off k h l
def na(size id off len:Nat)(lo hi:Option AV)(mx:AV):Option AV:=
 ok hi.isSome (ob (yX len mx) λm=>ob (dT m len hi) λh=>ob (dT h 0 lo) λl=>some (js id off size m h l))
def n9(size id off len:Nat)(lo hi max:Option AV):eZ->Option AV
 | .known c=>i_ size id off len c lo hi max
 | .rest k=>match max with
   | none=>sH size id off len k lo hi
   | some mx=>na size id off len lo hi mx
def pJ:AV->Option Nat
 | .slice _ _ n _=>some n
 | .nilslice=>some 0
 | .str s=>some s.length
 | _=>none
def jt(b:UInt8):AV:=.int .u8 (.ofNat b.toNat)
def jG(C:bg)(o:aC)(size n:Nat):AV->Option (List AV)
 | .slice id off len _=>ok (Nat.ble n len) (mc C o id off (n*size))
 | .nilslice=>ok (Nat.beq n 0) (some [])
 | .str s=>ok (Nat.ble n s.length) (some ((s.take n).map jt))
 | _=>none
def oE(C:bg)(o:aC)(size n:Nat)(cs:List AV):AV×aC:=(.slice (o.next C) 0 n (.rest 0),o.push (.cells cs true (some size)))
def yF(size n:Nat):aE->Option (List AV)
 | .cells cs true (some g)=>ok (Nat.beq g size&&Nat.beq cs.length n) (some cs)
 | _=>none
def kR(C:bg)(o:aC)(size n id off len c:Nat)(new:List AV):Option (AV×aC):=
 bif Nat.ble (len+n) c then ob (ly C o id (off+len*size) new) λo'=>some (.slice id off (len+n) (.known c),o')
 else ob (mc C o id off (len*size)) λold=>some (oE C o size (len+n) (old++new))
def mV(C:bg)(o:aC)(size n id off len k:Nat)(new:List AV):Option (AV×aC):=
 ok (Nat.beq off 0&&Nat.beq k 0) (ob (dW C o id) λx=>ob (yF size (len*size) x) λcs=>some (oE C (eF C o id .dead) size (len+n) (cs++new)))
def appendCap(C:bg)(o:aC)(size n id off len:Nat)(new:List AV):eZ->Option (AV×aC)
 | .known c=>kR C o size n id off len c new
 | .rest k=>mV C o size n id off len k new
def jy(C:bg)(o:aC)(size n:Nat)(new:List AV):AV->Option (AV×aC)
 | .nilslice=>some (oE C o size n new)
 | .slice id off len c=>appendCap C o size n id off len new c
 | _=>none
def lS:AV->Bool
 | .nilslice|.slice ..=>true
 | _=>false
def OC:AV->Bool
 | .slice _ _ len (.known c)=>Nat.ble len c
 | _=>true
def Bu(size:Nat):AV->Bool
 | .str _=>Nat.beq size 1
 | _=>true
def Jk(sl n size:Nat):Bool:=Nat.ble (sl+n) 1000000&&aW 0 size&&Nat.ble size 1000
def tj(t:TypeId):Bool:=match P.inf t with
 | some i=>Nat.ble i.bytes 100000
 | none=>false
def oX(t:TypeId):Bool:=match P.und t with
 | some (.int _)=>false
 | some _=>true
 | none=>false
def pk(C:bg)(o:aC)(sType xType:TypeId)(s x:AV):Option (AV×aC):=
 ob (kx P sType) λelem=>ok (oX P xType&&tj P elem&&lS s) (ob (gO P elem) λsize=>ob (kW P elem) λz=>ob (pJ x) λn=>ob (pJ s) λsl=>
  bif Nat.beq n 0 then ok (OC s) (some (s,o))else ok (Jk sl n size&&Nat.beq (bU z).length size&&Bu size x) (ob (jG C o size n x) λnew=>ok (ff new) (jy C o size n new s)))
def pw(f:Int->Int->Int)(k:IntKind)(acc:Int):List AV->Option AV
 | []=>some (.int k acc)
 | .int _ y::rest=>pw f k (f acc y) rest
 | _::_=>none
def gQ(x y:Int):Int:=bif ab x y then x else y
def kI(x y:Int):Int:=bif ab y x then x else y
def H4(x:AV):Option TypeDesc->Option AV
 | some .string=>match x with
   | .str s=>some (goInt s.length)
   | _=>none
 | some (.slice _)=>match x with
   | .slice _ _ n _=>some (goInt n)
   | .nilslice=>some (goInt 0)
   | _=>none
 | some (.array n _)=>some (goInt n)
 | _=>none
def HX(x:AV):Option TypeDesc->Option AV
 | some (.slice _)=>match x with
   | .slice _ _ _ (.known n)=>some (goInt n)
   | .nilslice=>some (goInt 0)
   | _=>none
 | _=>none
def Lk(a b:Nat):Nat:=bif Nat.ble a b then a else b
def sK(C:bg)(o:aC)(n:Nat)(cs:List AV):AV->Option (AV×aC)
 | .nilslice=>some (goInt n,o)
 | .slice id off _ _=>ok (ff cs) (ob (ly C o id off cs) λo'=>some (goInt n,o'))
 | _=>none
def Ai(C:bg)(o:aC)(dType:TypeId)(d s:AV):Option (AV×aC):=
 ob (kx P dType) λelem=>ok (lS d) (ob (gO P elem) λsize=>ob (pJ d) λdl=>ob (pJ s) λsl=>
  ob (jG C o size (Lk sl dl) s) λcs=>sK C o (Lk sl dl) cs d)
def gP(o:aC)(x:Option AV):Option (AV×aC):=ob x λv=>some (v,o)
def OD(f:Int->Int->Int):List AV->Option AV
 | .int k x::rest=>pw f k x rest
 | _=>none
def two(f:AV->AV->Option (AV×aC)):List AV->Option (AV×aC)
 | [a,b]=>f a b
 | _=>none
def one(f:AV->Option AV):List AV->Option AV
 | [a]=>f a
 | _=>none
def fU(C:bg)(o:aC)(b:Builtin)(ts:List TypeId)(args:List AV):Option (AV×aC):=match b with
 | .len=>gP o (ob ts[0]? λt=>one (λx=>H4 x (P.und t)) args)
 | .cap=>gP o (ob ts[0]? λt=>one (λx=>HX x (P.und t)) args)
 | .append=>ob ts[0]? λt=>ob ts[1]? λu=>two (λs x=>pk P C o t u s x) args
 | .copy=>ob ts[0]? λt=>two (λd s=>Ai P C o t d s) args
 | .min=>gP o (OD gQ args)
 | .max=>gP o (OD kI args)
 | _=>none
def x9(x:AV):AV->Option Bool
 | .int k b=>match x with
   | .int k' a=>ok (gN k' k) (some (aa a b))
   | _=>none
 | .str b=>match x with
   | .str a=>some (af a b)
   | _=>none
 | .bool b=>match x with
   | .bool a=>some (bW a b)
   | _=>none
 | _=>none
def pY(k:AV):List (AV×AV)->Option (Option AV)
 | []=>some none
 | e::es=>ob (x9 k e.1) λr=>bif r then some (some e.2)else pY k es
def lP:aE->Option (List (AV×AV))
 | .map es=>some es
 | _=>none
def HJ(k v:AV):List (AV×AV)->Option (List (AV×AV))
 | []=>none
 | e::es=>ob (x9 k e.1) λr=>bif r then some ((k,v)::es)else ob (HJ k v es) λes'=>some (e::es')
def wo(C:bg)(o:aC)(k v:AV):AV->Option (AV×aC)
 | .map id=>ob (dW C o id) λx=>ob (lP x) λes=>ob (pY k es) λr=>match r with
   | none=>some (bo,eF C o id (.map (es++[(k,v)])))
   | some _=>ob (HJ k v es) λes'=>some (bo,eF C o id (.map es'))
 | _=>none
def oK(ok:Bool)(v:AV)(there:Bool):AV:=bif ok then .tuple [v,.bool there]else v
def rQ(C:bg)(o:aC)(elem:TypeId)(ok:Bool)(k:AV):AV->Option AV
 | .map id=>ob (lP (get C o id)) λes=>ob (pY k es) λr=>match r with
   | some v=>some (oK ok v true)
   | none=>ob (kW P elem) λz=>some (oK ok z false)
 | _=>none
def gx(ρ:Operand->Option AV):List Operand->Option (List AV)
 | []=>some []
 | x::xs=>ob (ρ x) λv=>ob (gx ρ xs) λvs=>some (v::vs)
def oF(ρ:Operand->Option AV):List (Nat×Operand)->Option (List (Nat×AV))
 | []=>some []
 | p::xs=>ob (ρ p.2) λv=>ob (oF ρ xs) λvs=>some ((p.1,v)::vs)
def xU(ρ:Operand->Option AV):Option Operand->Option (Option AV)
 | none=>some none
 | some x=>ob (ρ x) λv=>some (some v)
def tY(fields:Array Field)(i:Nat):Option (Nat×Nat):=ob fields[i]? λf=>ob (gO P f.type) λn=>some (f.offset,n)
def wb:List Field->Option (List (Nat×Nat))
 | []=>some []
 | f::fs=>ob (gO P f.type) λn=>ob (wb fs) λr=>some ((f.offset,n)::r)
def GF(a b:Option AV):AV->Option AV
 | .bool true=>a
 | .bool false=>b
 | _=>none
def lA(C:bg)(o:aC)(v:AV):Option (AV×aC):=ok (ff (bU v)) (some (.ptr (o.next C) 0,o.push (.cells (bU v) true none)))
def EO(z:List AV)(ps:List (Nat×AV)):Option TypeDesc->Option AV
 | some (.struct fields)=>ob (wb P fields.toList) λpl=>ob (vE (λi=>pl[i]?) z ps) λcs=>some (.agg cs)
 | some (.array _ elem)=>ob (gO P elem) λn=>ob (vE (λi=>some (i*n,n)) z ps) λcs=>some (.agg cs)
 | _=>none
def A1(ρ:Operand->Option AV)(t:TypeId)(parts:List (Nat×Operand)):Option AV:=
 ob (kW P t) λz=>ob (oF ρ parts) λps=>EO P (bU z) ps (P.und t)
def h_(C:bg)(ρ:Operand->Option AV)(o:aC)(t:TypeId)(len:Nat)(parts:List (Nat×Operand)):Option (AV×aC):=
 ob (kx P t) λelem=>ob (gO P elem) λn=>ob (kW P elem) λz=>ob (oF ρ parts) λps=>
  ok (Nat.ble (len*n) 10000&&Nat.beq (bU z).length n&&aW 0 n) (ob (vE (λi=>some (i*n,n)) (m6 (bU z) len) ps) λcs=>
   ok (ff cs) (some (.slice (o.next C) 0 len (.known len),o.push (.cells cs true none))))
def mW(C:bg)(o:aC)(t:TypeId)(l c:AV):Option (AV×aC):=
 ob (kx P t) λelem=>ob (gO P elem) λn=>ob (kW P elem) λz=>ob (yX 10000 c) λcn=>ob (yX cn l) λln=>
  ok (Nat.beq (bU z).length n&&aW 0 n&&Nat.ble n 10000&&tj P elem&&ff (bU z))
   (some (.slice (o.next C) 0 ln (.known cn),o.push (.cells (m6 (bU z) cn) true none)))
def wv(n:Int):Option TypeDesc->Option AV
 | some (.int k)=>iN k n
 | some .string=>some (.str (Utf8.encode n).data.toList)
 | _=>none
def mP:Option TypeDesc->Bool
 | some (.int .u8)=>true
 | _=>false
def oM(C:bg)(o:aC)(s:List UInt8):Option TypeDesc->Option (AV×aC)
 | some .string=>some (.str s,o)
 | some (.slice e)=>ok (mP (P.und e)&&Nat.ble s.length 1000000) (some (.slice (o.next C) 0 s.length (.rest 0),o.push (.cells (s.map jt) false none)))
 | _=>none
def wG:AV->Option UInt8
 | .int .u8 (.ofNat n)=>ok (aW n 256) (some (UInt8.ofNat n))
 | _=>none
def lY:List AV->Option (List UInt8)
 | []=>some []
 | v::rest=>ob (wG v) λb=>ob (lY rest) λs=>some (b::s)
def pD(C:bg)(o:aC)(id off len:Nat)(src dst:Option TypeDesc):Option AV:=
 ob (CY src) λe=>ok (mP (P.und e)&&yY dst) (ob (mc C o id off len) λcs=>ob (lY cs) λs=>some (.str s))
def jr(C:bg)(o:aC)(src dst:TypeId):AV->Option (AV×aC)
 | .int _ n=>ok (P.und src).isSome (gP o (wv n (P.und dst)))
 | .str s=>ok (yY (P.und src)) (oM P C o s (P.und dst))
 | .slice id off len _=>gP o (pD P C o id off len (P.und src) (P.und dst))
 | _=>none
def w_(t:TypeId)(v:AV):Option AV:=match P.und t with
 | some (.interface _)=>none
 | some _=>some (.iface t v)
 | none=>none
def q8(t:TypeId)(lo hi mx:Option AV):AV->Option AV
 | .ptr id off=>ob (BR P t) λne=>ob (gO P ne.2) λsize=>i_ size id off ne.1 ne.1 lo hi mx
 | .str s=>ok (za P t&&mx.isNone) (xn s lo hi)
 | .nilslice=>ob (kx P t) λe=>ob (gO P e) λ_=>xT lo hi mx
 | .slice id off len c=>ob (kx P t) λe=>ob (gO P e) λsize=>n9 size id off len lo hi mx c
 | _=>none
def Le(n:Nat):AV->Option AV
 | .ptr id off=>some (.ptr id (off+n))
 | _=>none
def qk(s:TypeId)(f:Nat)(x:AV):Option AV:=ob (wq P s) λfields=>ob (tY P fields f) λq=>ok (aW 0 q.2) (Le q.1 x)
def DX(s:TypeId)(f:Nat):AV->Option AV
 | .agg cs=>ob (wq P s) λfields=>ob fields[f]? λfd=>iQ P fd.type cs fd.offset
 | _=>none
def Hx:AV->Option Nat
 | .int _ (.ofNat i)=>some i
 | _=>none
def ky(t:TypeId)(i:Nat):AV->Option AV
 | .ptr id off=>ob (BR P t) λne=>ok (aW i ne.1) (ob (gO P ne.2) λn=>some (.ptr id (off+i*n)))
 | .slice id off len _=>ob (kx P t) λe=>ok (aW i len) (ob (gO P e) λn=>some (.ptr id (off+i*n)))
 | _=>none
def wU(t:TypeId)(i:Nat):AV->Option AV
 | .agg cs=>ob (BR P t) λne=>ok (aW i ne.1) (ob (gO P ne.2) λn=>iQ P ne.2 cs (i*n))
 | .str s=>ok (za P t) (ob s[i]? λb=>some (jt b))
 | _=>none
def Au(C:bg)(o:aC)(t:TypeId)(m k v:AV):Option (AV×aC):=
 ob (Hy (P.und t)) λke=>ok (rv k (P.und ke.1)) (wo C o k v m)
def BX(C:bg)(o:aC)(t:TypeId)(okv:Bool)(m k:AV):Option AV:=
 ob (Hy (P.und t)) λke=>ok (rv k (P.und ke.1)) (rQ P C o ke.2 okv k m)
def Eg(C:bg)(o:aC)(t:TypeId):AV->Option (AV×aC)
 | .str s=>ok (za P t) (some (.ptr (o.next C) 0,o.push (.siter s 0)))
 | _=>none
def CM(C:bg)(o:aC)(id:Nat)(s:List UInt8)(pos:Nat):AV×aC:=
 bif aW pos s.length then(.tuple [.bool true,goInt pos,Hs .i32 .ofNat (Utf8.decode ⟨⟨s⟩⟩ pos).1],eF C o id (.siter s (pos+(Utf8.decode ⟨⟨s⟩⟩ pos).2)))
 else(.tuple [.bool false],o)
def rS(C:bg)(o:aC)(id:Nat):aE->Option (AV×aC)
 | .siter s pos=>some (CM C o id s pos)
 | _=>none
def B7(C:bg)(o:aC):AV->Option (AV×aC)
 | .ptr id 0=>ob (dW C o id) λx=>rS C o id x
 | _=>none
def Dj(i:Nat):AV->Option AV
 | .tuple vs=>vs[i]?
 | _=>none
def zF:AV->Option AV
 | .ptr id off=>some (.ptr id off)
 | .func f a b=>some (.func f a b)
 | _=>none
def sW(ρ:Operand->Option AV)(first captured:List Operand):Fn->Option AV
 | .func f=>ob (gx ρ first) λa=>ob (gx ρ captured) λb=>some (.func f a b)
 | _=>none
end
abbrev sk:Type:=fb->bg->(Operand->Option AV)->aC->Option (AV×aC)
def sM(x:Operand):sk:=λP C ρ o=>gP o (ρ x)
def xM(c a b:Operand):sk:=λP C ρ o=>gP o (ob (ρ c) (GF (ρ a) (ρ b)))
def pB(t:TypeId):sk:=λP C ρ o=>ob (kW P t) (lA C o)
def yg(x:Operand):sk:=λP C ρ o=>ob (ρ x) (lA C o)
def vN(t:TypeId)(parts:Array (Nat×Operand)):sk:=λP C ρ o=>gP o (A1 P ρ t parts.toList)
def fL(t:TypeId)(len:Nat)(parts:Array (Nat×Operand)):sk:=λP C ρ o=>h_ P C ρ o t len parts.toList
def th(t:TypeId)(a:Operand):sk:=λP C ρ o=>gP o (ob (ρ a) (rJ P C o t))
def oY(t:TypeId)(a x:Operand):sk:=λP C ρ o=>ob (ρ a) λp=>ob (ρ x) λv=>ob (yz P C o t v p) λo'=>some (bo,o')
def mM(x:Operand):sk:=λP C ρ o=>gP o (ob (ρ x) zF)
def CC(op:BinOp)(t:TypeId)(x y:Operand):sk:=λP C ρ o=>gP o (ob (ρ x) λa=>ob (ρ y) λb=>Jv P op t x y a b)
def IO(op:UnOp)(x:Operand):sk:=λP C ρ o=>gP o (ob (ρ x) (Vf op))
def ij(src dst:TypeId)(x:Operand):sk:=λP C ρ o=>ob (ρ x) (jr P C o src dst)
def wj(t:TypeId)(x:Operand):sk:=λP C ρ o=>gP o (ob (ρ x) (w_ P t))
def Bz(fn:Fn)(first captured:Array Operand):sk:=λP C ρ o=>gP o (sW ρ first.toList captured.toList fn)
def o6(r:Option Operand):sk:=λP C ρ o=>ok r.isNone (some (.map (o.next C),o.push (.map [])))
def kV(t:TypeId)(m k x:Operand):sk:=λP C ρ o=>ob (ρ m) λmv=>ob (ρ k) λkv=>ob (ρ x) λv=>Au P C o t mv kv v
def hZ(t:TypeId)(l c:Operand):sk:=λP C ρ o=>ob (ρ l) λlv=>ob (ρ c) λcv=>mW P C o t lv cv
def qW(t:TypeId)(x:Operand)(lo hi mx:Option Operand):sk:=λP C ρ o=>gP o (ob (ρ x) λv=>ob (xU ρ lo) λl=>ob (xU ρ hi) λh=>ob (xU ρ mx) λm=>q8 P t l h m v)
def kY(s:TypeId)(x:Operand)(f:Nat):sk:=λP C ρ o=>gP o (ob (ρ x) (qk P s f))
def vY(s:TypeId)(x:Operand)(f:Nat):sk:=λP C ρ o=>gP o (ob (ρ x) (DX P s f))
def jz(t:TypeId)(x ix:Operand):sk:=λP C ρ o=>gP o (ob (ρ x) λv=>ob (ρ ix) λi=>ob (Hx i) λn=>ky P t n v)
def qG(t:TypeId)(x ix:Operand):sk:=λP C ρ o=>gP o (ob (ρ x) λv=>ob (ρ ix) λi=>ob (Hx i) λn=>wU P t n v)
def nV(t:TypeId)(x ix:Operand)(okv:Bool):sk:=λP C ρ o=>gP o (ob (ρ x) λm=>ob (ρ ix) λk=>BX P C o t okv m k)
def q7(t:TypeId)(x:Operand):sk:=λP C ρ o=>ob (ρ x) (Eg P C o t)
def qd(it:Operand)(s:Bool):sk:=λP C ρ o=>ok s (ob (ρ it) (B7 C o))
def oH(t:Operand)(i:Nat):sk:=λP C ρ o=>gP o (ob (ρ t) (Dj i))
def Rc:sk:=λ_ _ _ _=>none
def gT:Op->sk
 | .move x=>sM x
 | .assign x=>sM x
 | .pick c a b=>xM c a b
 | .alloc t=>pB t
 | .box _ x=>yg x
 | .build t parts=>vN t parts
 | .buildSlice t len parts=>fL t len parts
 | .load t a=>th t a
 | .store t a x=>oY t a x
 | .nilCheck x=>mM x
 | .binOp op t x y _=>CC op t x y
 | .unOp op _ x=>IO op x
 | .convert src dst x=>ij src dst x
 | .makeInterface t x=>wj t x
 | .makeFunc fn first captured=>Bz fn first captured
 | .makeMap _ r=>o6 r
 | .insert t m k x=>kV t m k x
 | .mapUpdate t m k x=>kV t m k x
 | .makeSlice t l c=>hZ t l c
 | .slice t x lo hi mx=>qW t x lo hi mx
 | .fieldAddr s x f=>kY s x f
 | .field s x f=>vY s x f
 | .indexAddr t x ix=>jz t x ix
 | .index t x ix=>qG t x ix
 | .lookup t x ix okv=>nV t x ix okv
 | .range t x=>q7 t x
 | .next it s=>qd it s
 | .extract t i=>oH t i
 | _=>Rc
def Do(P:fb)(C:bg)(ρ:Operand->Option AV)(o:aC)(op:Op):Option (AV×aC):=gT op P C ρ o
def hJ(lo:Nat):Nat->AV->Bool
 | 0,_=>false
 | d+1,v=>match v with
   | .ptr id _=>aW id lo
   | .slice id _ _ _=>aW id lo
   | .map id=>aW id lo
   | .yield id=>aW id lo
   | .func _ a b=>a.all (hJ lo d)&&b.all (hJ lo d)
   | .iface _ v=>hJ lo d v
   | .agg cs=>cs.all (hJ lo d)
   | .tuple cs=>cs.all (hJ lo d)
   | _=>true
def bw(lo:Nat)(vs:List AV):Bool:=vs.all (hJ lo 20)
inductive AX where
 | normal
 | exit (id:Nat)
 | ret
 deriving Inhabited
structure St where
 ts:Ts
 tn:Nat
 o:aC
 ds:List Nat
 ro:Option Nat
 deriving Inhabited
structure cG where
 G:Nat
 lend:FuncId->List Nat
 canon:FuncId->Bool
 orc:FuncId->bg->List AV->aC->Option (AV×aC)
 root:aC
inductive Cc where
 | free
 | alloc
 | load
 | look
 | call
 | bar
def OG:Builtin->Cc
 | .len|.cap|.min|.max=>.free
 | _=>.bar
def O1:Callee->Cc
 | .builtin b=>OG b
 | .value _=>.call
 | _=>.bar
def b8:Op->Cc
 | .move _|.assign _|.pick ..|.build ..|.nilCheck _|.binOp ..|.unOp ..|.makeInterface ..|.makeFunc ..|.slice ..|.fieldAddr ..|.field ..|.extract ..|.indexAddr ..|.index ..=>.free
 | .alloc _|.box ..|.buildSlice ..=>.alloc
 | .load ..=>.load
 | .lookup ..|.convert ..=>.look
 | .call c=>O1 c.callee
 | _=>.bar
def ox:Cc->Bool
 | .free=>true
 | _=>false
def mB:Cc->Bool
 | .load=>true
 | _=>false
def du:AV->Option Nat
 | .ptr id _=>some id
 | .slice id _ _ _=>some id
 | .map id=>some id
 | _=>none
def dw(args:List AV):List Nat->List Nat
 | []=>[]
 | p::ps=>match ob args[p]? du with
   | some id=>id::dw args ps
   | none=>dw args ps
inductive gk where
 | none
 | reads (id:Nat)
 | bar (ids:List Nat)
def sI:Option Nat->gk
 | some id=>.bar [id]
 | none=>.bar []
def Zf:List Nat->gk
 | []=>.none
 | l=>.bar l
def IC:Option Nat->gk
 | some id=>.reads id
 | none=>.bar []
def Gz(cfg:cG)(vs:List AV):AV->gk
 | .func f first captured=>Zf (dw (first++vs++captured) (cfg.lend f))
 | _=>.bar []
def Gv(ρ:Operand->Option AV)(args:List Operand):Builtin->gk
 | .len|.cap|.min|.max=>.none
 | _=>sI (ob args[0]? λx=>ob (ρ x) du)
def vD(cfg:cG)(ρ:Operand->Option AV)(args:List Operand):Callee->gk
 | .builtin b=>Gv ρ args b
 | .value f=>match ρ f with
   | some fv=>match gx ρ args with
     | some vs=>Gz cfg vs fv
     | none=>.bar []
   | none=>.bar []
 | _=>.bar []
def JV(cfg:cG)(ρ:Operand->Option AV)(op:Op):Cc->gk
 | .bar=>.bar []
 | _=>.none
def cW(cfg:cG)(ρ:Operand->Option AV):Op->gk
 | .load _ a=>IC (ob (ρ a) du)
 | .store _ a _=>sI (ob (ρ a) du)
 | .insert _ m _ _=>sI (ob (ρ m) du)
 | .mapUpdate _ m _ _=>sI (ob (ρ m) du)
 | .next it _=>sI (ob (ρ it) du)
 | .call c=>vD cfg ρ c.args.toList c.callee
 | op=>JV cfg ρ op (b8 op)
def nt(n:Nat):List Nat->Bool
 | []=>true
 | x::xs=>aW x n&&nt n xs
def xJ(n:Nat):gk->Bool
 | .bar ids=>nt n ids
 | _=>true
def t_(id:Nat):List Nat->Bool
 | []=>false
 | x::xs=>Nat.beq x id || t_ id xs
def Kh{α:Type}(k:Nat->α):Nat->α
 | 0=>k 0
 | n+1=>k (n+1)
def D5{α:Type}(k:List Nat->α):List Nat->α
 | []=>k []
 | x::xs=>k (x::xs)
def lf(acc:List Nat)(n j:Nat):Nat:=bif aW j n then acc.getD (n-1-j) 0 else 0
def Uj(acc:List Nat)(n:Nat):List Edge->Nat->Nat
 | [],s=>s
 | e::es,s=>Uj acc n es (bif Region.binds .any e then s ||| 2^e.on ||| lf acc n e.on else s)
def qA:List Oper->List Nat
 | []=>[]
 | o::prev=>D5 (λacc=>Kh (λv=>v::acc) (Uj acc prev.length o.after.toList 0)) (qA prev)
def zY(acc:List Nat)(n i j:Nat):Bool:=(lf acc n j).testBit i
def BG(acc:List Nat)(n i j:Nat):Bool:=bif Nat.ble i j then zY acc n i j else zY acc n j i
def VS:Operand->Option Tmp
 | .tmp t=>some t
 | _=>none
def EB(ops:Array Oper):Option (Nat×Bool)->Option Tmp
 | some jw=>ob ops[jw.1]? λo=>o.dst
 | none=>none
def oi(ops:Array Oper)(o:Oper):List Tmp:=o.dst.toList++(EB ops o.guard).toList++o.op.operands.toList.filterMap VS
def OJ(t:Tmp):Option Tmp->Bool
 | some d=>Nat.beq d t
 | none=>false
def Kz(acc:List Nat)(n k:Nat)(t:Tmp):Nat->List Oper->Bool
 | _,[]=>true
 | j,o::rest=>(!OJ t o.dst || Nat.beq j k || BG acc n j k)&&Kz acc n k t (j+1) rest
def NW(ops:Array Oper)(acc:List Nat):Nat->List Oper->Bool
 | _,[]=>true
 | k,o::rest=>(oi ops o).all (λt=>Kz acc ops.size k t 0 ops.toList)&&NW ops acc (k+1) rest
def E6(j:Nat):List Edge->Bool
 | []=>true
 | e::es=>(!Region.binds .any e || aW e.on j)&&E6 j es
def Gh:Nat->List Oper->Bool
 | _,[]=>true
 | j,o::rest=>E6 j o.after.toList&&Gh (j+1) rest
def Gf(ops:Array Oper):Option (List Nat):=D5 (λacc=>ok (NW ops acc 0 ops.toList&&Gh 0 ops.toList) (some acc)) (qA ops.toList.reverse)
def rh(j:Nat)(ids:List Nat):List (Nat×gk)->Bool
 | []=>true
 | e::rest=>(match e.2 with
   | .reads id=>!(Nat.beq e.1 j&&t_ id ids)
   | _=>true)&&rh j ids rest
def wO(acc:List Nat)(n:Nat)(log:List (Nat×gk))(i:Nat)(ids:List Nat):Nat->List Oper->Bool
 | _,[]=>true
 | j,o::rest=>(Nat.beq i j || ox (b8 o.op) || BG acc n i j || (mB (b8 o.op)&&rh j ids log))&&wO acc n log i ids (j+1) rest
def sN(ops:Array Oper)(acc:List Nat)(log:List (Nat×gk)):List (Nat×gk)->Bool
 | []=>true
 | e::rest=>(match e.2 with
   | .bar ids=>wO acc ops.size log e.1 ids 0 ops.toList
   | _=>true)&&sN ops acc log rest
def Bw(want:Bool):Value->Bool
 | .bool b=>bif want then b else !b
 | _=>false
def yE(want:Bool):AV->Bool
 | .bool b=>bif want then b else !b
 | .any v=>Bw want v
 | _=>false
def rn(ts:Ts)(want:Bool):Option Tmp->Bool
 | some t=>yE want (ts.get t)
 | none=>false
def eE(ops:Array Oper)(ts:Ts):Option (Nat×Bool)->Bool
 | none=>true
 | some jw=>match ops[jw.1]? with
   | some o=>rn ts jw.2 o.dst
   | none=>false
def jx(st:St)(v:AV)(o:aC):Option Tmp->Option St
 | some d=>ok (aW d st.tn&&aW d 1000000) (some ⟨Ts.set 20 st.ts d v,st.tn,o,st.ds,st.ro⟩)
 | none=>some ⟨st.ts,st.tn,o,st.ds,st.ro⟩
section
variable(P:fb)(cfg:cG)(call:bg->FuncId->List AV->aC->Option (AV×aC))(rnd:bg->Nat->List AV->aC->Option (AV×aC))(C:bg)
def GE(vs:List AV)(o:aC):AV->Option (AV×aC)
 | .func f first captured=>call C f (first++vs++captured) o
 | .yield id=>rnd C id vs o
 | _=>none
def sY:bg->Nat->List AV->aC->Option (AV×aC):=λ_ _ _ _=>none
def rq(ρ:Operand->Option AV)(o:aC)(c:Call):Option (AV×aC):=match c.callee with
 | .value f=>ob (ρ f) λfv=>ob (gx ρ c.args.toList) λvs=>GE call rnd C vs o fv
 | .builtin b=>ob (gx ρ c.args.toList) λvs=>fU P C o b c.argTypes.toList vs
 | _=>none
def gM(ρ:Operand->Option AV)(o:aC):Op->Option (AV×aC)
 | .call c=>rq P call rnd C ρ o c
 | op=>Do P C ρ o op
def BZ(ops:Array Oper):List Oper->St->Option St
 | [],st=>some st
 | op::rest,st=>ob (bif eE ops st.ts op.guard then ob (gM P call rnd C (e9 cfg.G st.ts) st.o op.op) λr=>jx st r.1 r.2 op.dst else jx st bo st.o op.dst) (BZ ops rest)
def p6(ops:Array Oper):Nat->List Oper->St->List (Nat×gk)->Option (St×List (Nat×gk))
 | _,[],st,log=>some (st,log)
 | i,op::rest,st,log=>
   bif eE ops st.ts op.guard then ob (gM P call sY C (e9 cfg.G st.ts) st.o op.op) λr=>ob (jx st r.1 r.2 op.dst) λst'=>
    ok (xJ (C.lo+st.o.n) (cW cfg (e9 cfg.G st.ts) op.op)) (p6 ops (i+1) rest st' ((i,cW cfg (e9 cfg.G st.ts) op.op)::log))
   else ob (jx st bo st.o op.dst) λst'=>p6 ops (i+1) rest st' ((i,.none)::log)
def j8(callI:bg->FuncId->List AV->aC->Option (AV×aC))(ops:Array Oper)(draw:Bool)(st:St):Option St:=
 bif draw then ob (Gf ops) λacc=>ob (p6 P cfg call C ops 0 ops.toList st []) λr=>ok (sN ops acc r.2 r.2) (some r.1)
 else BZ P cfg callI rnd C ops ops.toList st
def Cz(st:St):List ResultVar->Option (List AV)
 | []=>some []
 | .tmp t::rest=>ob (Cz st rest) λvs=>some (st.ts.get t::vs)
 | .cell a t::rest=>ob (rJ P C st.o t (st.ts.get a)) λv=>ob (Cz st rest) λvs=>some (v::vs)
end
def wZ:List AV->AV
 | [v]=>v
 | vs=>.tuple vs
def gC(C:bg)(o:aC):List Nat->List (Nat×aE)
 | []=>[]
 | id::ids=>bif t_ id ids then gC C o ids else match dW C o id with
   | some x=>(id,x)::gC C o ids
   | none=>gC C o ids
def p4(C:bg)(o:aC):List (Nat×aE)->aC
 | []=>o
 | p::rest=>p4 C (eF C o p.1 p.2) rest
def GK:Nat->AV->Bool
 | 0,_=>false
 | d+1,v=>match v with
   | .yield _=>true
   | .func _ a b=>a.any (GK d) || b.any (GK d)
   | .iface _ v=>GK d v
   | .agg cs=>cs.any (GK d)
   | .tuple cs=>cs.any (GK d)
   | _=>false
def Cx(vs:List AV):Bool:=vs.any (GK 5)
def qi(C:bg)(o:aC):List Nat->Option aC
 | []=>some o
 | d::ds=>match dW C o d with
   | some .defs=>qi C (eF C o d .dead) ds
   | _=>none
section
variable(P:fb)(cfg:cG)
def bh(f:FuncId):Option (Func×Code):=ob (P.fn.get f) λfn=>ob fn.body λc=>some (fn,c)
def vJ(C:bg)(fn:Func)(r:AX×St):Option (AV×aC):=match r.1 with
 | .exit _=>none
 | _=>ob (qi C r.2.o r.2.ds) λo=>ob (Cz P C ⟨r.2.ts,r.2.tn,o,[],none⟩ fn.results.toList) λvs=>some (wZ vs,o)
def jH(fn:Func)(args:List AV)(o:aC):St:=⟨Ts.ofList 0 .nil args,max args.length fn.ntmps,o,[],none⟩
def A9(C:bg)(o:aC)(le:List (Nat×aE))(r:AV×aC):AV×aC:=match le with
 | []=>bif hJ (C.lo+o.n) 20 r.1 then(r.1,o)else(r.1,⟨r.2.n+o.n,r.2.os++o.os,o.le⟩)
 | _::_=>(r.1,p4 C ⟨r.2.n+o.n,r.2.os++o.os,o.le⟩ r.2.le)
def lq(code:bg->Code->St->Option (AX×St))(C:bg)(fn:Func)(c:Code)(args:List AV)(o:aC):Option (AV×aC):=
 ok (Nat.ble args.length 1000) (ob (code C c (jH fn args o)) (vJ P C fn))
def zD(code:bg->Code->St->Option (AX×St))(C:bg)(fn:Func)(c:Code)(args:List AV)(o:aC)(le:List (Nat×aE)):Option (AV×aC):=
 ob (lq P code ⟨(C.lo,o)::C.B,C.lo+o.n⟩ fn c args ⟨0,[],le⟩) λr=>some (A9 C o le r)
def z_(code:bg->Code->St->Option (AX×St))(fn:Func)(c:Code)(args:List AV):Option AV:=
 ob (lq P code ⟨[(0,cfg.root)],cfg.root.n⟩ fn c args ⟨0,[],[]⟩) λr=>ok (hJ cfg.root.n 20 r.1) (some r.1)
def CZ(code:bg->Code->St->Option (AX×St))(C:bg)(inl:Bool)(args:List AV)(o:aC)(le:List Nat)(fc:Func×Code):Option (AV×aC):=
 bif inl&&Cx args then lq P code C fc.1 fc.2 args o else zD P code C fc.1 fc.2 args o (gC C o le)
def BV(inl:Bool)(code:bg->Code->St->Option (AX×St))(C:bg)(f:FuncId)(args:List AV)(o:aC):Option (AV×aC):=
 ob (bh P f) λfc=>bif cfg.canon f&&bw cfg.root.n args then ob (z_ P cfg code fc.1 fc.2 args) λv=>some (v,o)
  else CZ P code C inl args o (dw args (cfg.lend f)) fc
def kN(inl:Bool)(code:bg->Code->St->Option (AX×St))(C:bg)(f:FuncId)(args:List AV)(o:aC):Option (AV×aC):=match cfg.orc f C args o with
 | some r=>some r
 | none=>BV P cfg inl code C f args o
def MA:LoopState->Bool
 | .ready=>true
 | _=>false
def P_:LoopState->Bool
 | .busy=>true
 | _=>false
def E5(tn:Nat)(ts:Ts):List Tmp->List AV->Option Ts
 | [],[]=>some ts
 | t::ps,v::vs=>ok (aW t tn&&aW t 1000000) (E5 tn (Ts.set 20 ts t v) ps vs)
 | _,_=>none
def qb(C:bg)(o:aC)(id:Nat):Option zZ:=match dW C o id with
 | some (.loop r)=>some r
 | _=>none
def mK:AX->Option Code
 | .normal=>none
 | .exit id=>some (.exit id)
 | .ret=>some .ret
def lI:AX->LoopState
 | .normal=>.ready
 | _=>.done
def qg:AX->Bool
 | .normal=>true
 | _=>false
def tu(C:bg)(id:Nat)(x:AX×St):Option (AV×aC):=
 ob (qb C x.2.o id) λr=>some (.bool (qg x.1),eF C x.2.o id (.loop ⟨lI x.1,mK x.1,r.ts,r.tn,r.params,r.assign,r.body,r.defs⟩))
def nZ(code:bg->Code->St->Option (AX×St))(C:bg)(id:Nat)(body:Code)(x:AX×St):Option (AV×aC):=
 ok (qg x.1) (ob (qb C x.2.o id) λr=>ok (MA r.state)
  (ob (code C body ⟨x.2.ts,x.2.tn,eF C x.2.o id (.loop ⟨.busy,r.pend,r.ts,r.tn,r.params,r.assign,r.body,r.defs⟩),x.2.ds,x.2.ro⟩) (tu C id)))
def qa(code:bg->Code->St->Option (AX×St))(C:bg)(id:Nat)(args:List AV)(o:aC):Option (AV×aC):=
 ob (qb C o id) λr=>ob (E5 r.tn r.ts r.params.toList args) λts=>ob (code C r.assign ⟨ts,r.tn,o,[],some id⟩) (nZ code C id r.body)
def tM(f:St->Option (AX×St))(r:AX×St):Option (AX×St):=match r.1 with
 | .normal=>f r.2
 | _=>some r
def lx(id:Nat)(r:AX×St):AX×St:=match r.1 with
 | .exit j=>bif Nat.beq j id then(.normal,r.2)else r
 | _=>r
def LI(f:Code->Option (AX×St))(a b:Code):AV->Option (AX×St)
 | .bool true=>f a
 | .bool false=>f b
 | _=>none
end
abbrev nu:Type:=fb->cG->(bg->Code->St->Option (AX×St))->bg->St->Option (AX×St)
def OE:nu:=λ_ _ _ _ st=>some (.normal,st)
def Mg(a b:Code):nu:=λ_ _ code C st=>ob (code C a st) (tM (code C b))
def E3(c:Operand)(a b:Code):nu:=λ_ cfg code C st=>ob (e9 cfg.G st.ts c) (LI (λc=>code C c st) a b)
def AI(id:Nat)(b:Code):nu:=λ_ _ code C st=>ob (code C b st) λr=>some (lx id r)
def Fv(b:Code):nu:=λ_ _ code C st=>ob (code C b st) (tM (code C (.loop b)))
def Ll(b:Code):nu:=λ_ _ code C st=>code C b st
def Tp(id:Nat):nu:=λ_ _ _ _ st=>some (.exit id,st)
def Zn:nu:=λ_ _ _ _ st=>some (.ret,st)
def ry(ops:Array Oper)(draw:Bool):nu:=λP cfg code C st=>ob (j8 P cfg (kN P cfg false code) (qa code) C (kN P cfg true code) ops draw st) λst'=>some (.normal,st')
def ph(C:bg)(st:St):Option (Nat×aC×List Nat):=match st.ro with
 | none=>some (st.o.next C,st.o.push .defs,st.o.next C::st.ds)
 | some i=>ob (qb C st.o i) λr=>some (r.defs,st.o,st.ds)
def Fj:Option Code->Option AX
 | none=>some .normal
 | some .ret=>some .ret
 | some (.exit id)=>some (.exit id)
 | some _=>none
def wF(C:bg)(st:St)(l:Nat)(ds:List Nat)(r:AV×aC):Option (AX×St):=
 ob (qb C r.2 l) λq=>ok (!P_ q.state) (ob (Fj q.pend) λx=>some (x,⟨st.ts,st.tn,eF C r.2 l (.loop ⟨.exhausted,q.pend,q.ts,q.tn,q.params,q.assign,q.body,q.defs⟩),ds,st.ro⟩))
def wS(P:fb)(code:bg->Code->St->Option (AX×St))(C:bg)(l:Nat)(o:aC):AV->Option (AV×aC)
 | .func f first captured=>ob (bh P f) λfc=>lq P code C fc.1 fc.2 (first++[.yield l]++captured) o
 | _=>none
def A0(g:Operand)(ps:Array Tmp)(assign body:Code):nu:=λP cfg code C st=>
 ob (e9 cfg.G st.ts g) λgv=>ob (ph C st) λe=>
  ob (wS P code C (e.2.1.next C) (e.2.1.push (.loop ⟨.ready,none,st.ts,st.tn,ps,assign,body,e.1⟩)) gv) (wF C st (e.2.1.next C) e.2.2)
def WU:nu:=λ_ _ _ _ _=>none
def fJ:Code->nu
 | .skip=>OE
 | .label _=>OE
 | .seq a b=>Mg a b
 | .cond c a b=>E3 c a b
 | .block id b=>AI id b
 | .loop b=>Fv b
 | .scope b=>Ll b
 | .exit id=>Tp id
 | .ret=>Zn
 | .region _ ops draw=>ry ops draw
 | .rangeFunc g ps assign body=>A0 g ps assign body
 | _=>WU
def eT(P:fb)(cfg:cG):Nat->bg->Code->St->Option (AX×St)
 | 0,_,_,_=>none
 | n+1,C,c,st=>fJ c P cfg (eT P cfg n) C st
end Go.Ev
