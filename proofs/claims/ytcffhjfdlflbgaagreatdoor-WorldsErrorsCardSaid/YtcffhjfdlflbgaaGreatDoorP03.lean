import GoSem.Step
import Derived.Test.YtcffhjfdlflbgaaGreatDoorP02
set_option linter.all false
open Nat renaming beq->ν,ble->ξ
set_option linter.all false
set_option maxRecDepth 100000
set_option maxHeartbeats 4000000
namespace Go.Ev
open Go
inductive fg where
 | a (n:Nat)
 | b (k:Nat)
 deriving Inhabited
inductive AV where
 | b (b:Bool)
 | a (k:IntKind) (n:Int)
 | e (s:List UInt8)
 | h (id off:Nat)
 | o
 | c (id off len:Nat) (cap:fg)
 | f
 | i (f:FuncId) (first captured:List AV)
 | l
 | m (t:TypeId) (v:AV)
 | k
 | g (cells:List AV)
 | d (vs:List AV)
 | q (id:Nat)
 | p
 | n (id:Nat)
 | j (v:Value)
 deriving Inhabited
instance:Coe Int AV:=⟨.a .i64⟩
instance:Coe Bool AV:=⟨.b⟩
instance:Coe (List UInt8) AV:=⟨.e⟩
def bt:AV:=.d []
inductive Ts where
 | a0
 | c0 (v:AV) (l r:Ts)
 deriving Inhabited
def Ts.b0:Ts->Nat->AV
 | .a0,_=>bt
 | .c0 v l r,i=>bif ν i 0 then v else bif ν (i%2) 1 then l.b0 (i/2)else r.b0 (i/2-1)
def Ts.n0:Ts->AV
 | .a0=>bt
 | .c0 v _ _=>v
def Ts.m0:Ts->Ts
 | .a0=>.a0
 | .c0 _ l _=>l
def Ts.h0:Ts->Ts
 | .a0=>.a0
 | .c0 _ _ r=>r
def Ts.k0:Nat->Ts->Nat->AV->Ts
 | 0,t,_,_=>t
 | d+1,t,i,v=>bif ν i 0 then .c0 v t.m0 t.h0
   else bif ν (i%2) 1 then .c0 t.n0 (Ts.k0 d t.m0 (i/2) v) t.h0 else .c0 t.n0 t.m0 (Ts.k0 d t.h0 (i/2-1) v)
def Ts.j0(i:Nat)(t:Ts):List AV->Ts
 | []=>t
 | v::vs=>Ts.j0 (i+1) (Ts.k0 20 t i v) vs
structure AK where
 f0:LoopState
 e0:Option Code
 ts:Ts
 tn:Nat
 b0:Array Tmp
 a0:Code
 c0:Code
 d0:Nat
inductive cD where
 | a (cs:List AV) (rw:Bool) (grow:Option Nat)
 | f (es:List (AV×AV))
 | d (s:List UInt8) (pos:Nat)
 | c (r:AK)
 | e
 | b
 deriving Inhabited
structure aB where
 n:Nat
 os:List cD
 le:List (Nat×cD)
 deriving Inhabited
structure bg where
 B:List (Nat×aB)
 lo:Nat
def ob{α β:Type}(x:Option α)(f:α->Option β):Option β:=match x with
 | none=>none
 | some a=>f a
def ok{α:Type}(b:Bool)(x:Option α):Option α:=bif b then x else none
def zG:List cD->Nat->cD->List cD
 | [],_,_=>[]
 | _::os,0,x=>x::os
 | y::os,n+1,x=>y::zG os n x
def aB.at(o:aB)(i:Nat):cD:=o.os.getD (o.n-1-i) .b
def aB.e0(o:aB)(i:Nat)(x:cD):aB:=⟨o.n,zG o.os (o.n-1-i) x,o.le⟩
def aB.a0(o:aB)(x:cD):aB:=⟨o.n+1,x::o.os,o.le⟩
def fp:List (Nat×cD)->Nat->Option cD
 | [],_=>none
 | p::rest,id=>bif ν p.1 id then some p.2 else fp rest id
def yJ:List (Nat×cD)->Nat->cD->List (Nat×cD)
 | [],_,_=>[]
 | p::rest,id,x=>bif ν p.1 id then(id,x)::rest else p::yJ rest id x
def aB.b0(C:bg)(o:aB):Nat:=C.lo+o.n
def gB:List (Nat×aB)->Nat->cD
 | [],_=>.b
 | p::rest,id=>bif ξ p.1 id then p.2.at (id-p.1)else match fp p.2.le id with
   | some x=>x
   | none=>gB rest id
def get(C:bg)(o:aB)(id:Nat):cD:=gB ((C.lo,o)::C.B) id
def dQ(C:bg)(o:aB)(id:Nat):Option cD:=bif ξ C.lo id then some (o.at (id-C.lo))else fp o.le id
def kV(C:bg)(o:aB)(id:Nat)(x:cD):aB:=bif ξ C.lo id then o.e0 (id-C.lo) x else⟨o.n,o.os,yJ o.le id x⟩
def bU:AV->List AV
 | .g cs=>cs
 | .j v=>v.cells.toList.map .j
 | v=>[v]
def KU:AV->Bool
 | .g _|.d _|.j _=>false
 | _=>true
def OY:Value->Option AV
 | .bool b=>some (.b b)
 | .int k n=>some (.a k n)
 | .string s=>some (.e s.data.toList)
 | .pointer none=>some .o
 | .slice none 0 0=>some .f
 | .map none=>some .p
 | .nilFunc=>some .l
 | .nilIface=>some .k
 | _=>none
def Om:List Value->Option (List AV)
 | []=>some []
 | v::vs=>ob (OY v) λa=>ob (Om vs) λsa0=>some (a::sa0)
def Ng:Value->Option AV
 | .agg cs=>ob (Om cs.toList) λsa0=>some (.g sa0)
 | v=>OY v
def abw:IntKind->Nat
 | .i8=>0|.i16=>1|.i32=>2|.i64=>3|.u8=>4|.u16=>5|.u32=>6|.u64=>7
def zb(a b:IntKind):Bool:=ν (abw a) (abw b)
def aS(a b:Nat):Bool:=ξ (a+1) b
def ab:Int->Int->Bool
 | .ofNat a,.ofNat b=>ξ a b
 | .negSucc _,.ofNat _=>true
 | .ofNat _,.negSucc _=>false
 | .negSucc a,.negSucc b=>ξ b a
def aa:Int->Int->Bool
 | .ofNat a,.ofNat b=>ν a b
 | .negSucc a,.negSucc b=>ν a b
 | _,_=>false
def bQ:Bool->Bool->Bool
 | true,b=>b
 | false,b=>!b
def eH:IntKind->Int
 | .i8=>-128|.i16=>-32768|.i32=>-2147483648|.i64=>-9223372036854775808
 | _=>0
def eE:IntKind->Int
 | .i8=>127|.i16=>32767|.i32=>2147483647|.i64=>9223372036854775807
 | .u8=>255|.u16=>65535|.u32=>4294967295|.u64=>18446744073709551615
def DD(k:IntKind)(n:Int):Int:=bif ab (eH k) n&&ab n (eE k)then n else k.wrap n
def H0(k:IntKind)(c:Nat->Int):Nat->AV
 | 0=>.a k (c 0)
 | m+1=>.a k (c (m+1))
def IV(k:IntKind):Int->AV
 | .ofNat n=>H0 k .ofNat n
 | .negSucc n=>H0 k .negSucc n
def iU(k:IntKind)(n:Int):Option AV:=some (IV k (DD k n))
def goInt(n:Nat):AV:=H0 .i64 .ofNat n
def jW(cs:List AV)(off n:Nat):Option (List AV):=ok (ν ((cs.drop off).take n).length n) (some ((cs.drop off).take n))
def qh:List AV->List AV->Option (List AV)
 | cs,[]=>some cs
 | [],_::_=>none
 | _::cs,v::vs=>ob (qh cs vs) λr=>some (v::r)
def adi:List AV->Nat->List AV->Option (List AV)
 | cs,0,vs=>qh cs vs
 | [],_+1,_=>none
 | c::cs,n+1,vs=>ob (adi cs n vs) λr=>some (c::r)
def vF(place:Nat->Option (Nat×Nat))(cells:List AV):List (Nat×AV)->Option (List AV)
 | []=>some cells
 | p::rest=>ob (place p.1) λq=>ok (ν (bU p.2).length q.2) (ob (adi cells q.1 (bU p.2)) λr=>vF place r rest)
def mX(zero:List AV):Nat->List AV
 | 0=>[]
 | n+1=>zero++mX zero n
def ae:List UInt8->List UInt8->Bool
 | [],[]=>true
 | a::x,b::y=>ν a.toNat b.toNat&&ae x y
 | _,_=>false
def acg:List UInt8->List UInt8->Bool
 | _,[]=>false
 | [],_::_=>true
 | a::x,b::y=>aS a.toNat b.toNat || (ν a.toNat b.toNat&&acg x y)
inductive Tb(α:Type) where
 | b0
 | a0 (v:Option α) (l r:Tb α)
def Tb.c0{α:Type}:Tb α->Nat->Option α
 | .b0,_=>none
 | .a0 v l r,i=>bif ν i 0 then v else bif ν (i%2) 1 then l.c0 (i/2)else r.c0 (i/2-1)
structure TE where
 i:TypeInfo
 u:TypeDesc
 b0:Bool
 a0:Bool
structure fm where
 ty:Tb TE
 fn:Tb Func
section
variable(P:fm)
def fm.a0(t:TypeId):Option TypeDesc:=ob (P.ty.c0 t) λe=>some e.u
def fm.b0(t:TypeId):Option TypeInfo:=ob (P.ty.c0 t) λe=>some e.i
def gT(t:TypeId):Option Nat:=ob (P.ty.c0 t) λe=>some e.i.size
def xN:Option TypeDesc->Bool
 | some (.struct _)|some (.array _ _)=>true
 | _=>false
def lA(t:TypeId):Option AV:=ob (P.b0 t) λi=>ob i.zero Ng
def Di:Option TypeDesc->Option TypeId
 | some (.slice e)=>some e
 | _=>none
def kr(t:TypeId):Option TypeId:=Di (P.a0 t)
def Tj:Option TypeDesc->Option (Nat×TypeId)
 | some (.array n e)=>some (n,e)
 | _=>none
def Ds(t:TypeId):Option (Nat×TypeId):=Tj (P.a0 t)
def pH:Option TypeDesc->Option (Array Field)
 | some (.struct fs)=>some fs
 | _=>none
def wI(t:TypeId):Option (Array Field):=pH (P.a0 t)
def Qx:Option TypeDesc->Option IntKind
 | some (.int k)=>some k
 | _=>none
def SK(t:TypeId):Option IntKind:=Qx (P.a0 t)
def zF:Option TypeDesc->Bool
 | some .string=>true
 | _=>false
def zO(t:TypeId):Bool:=zF (P.a0 t)
def Kf:Option TypeDesc->Bool
 | some .bool=>true
 | _=>false
def EM:Option TypeDesc->Bool
 | some (.interface _)=>true
 | _=>false
def H3:Option TypeDesc->Option (TypeId×TypeId)
 | some (.map k e)=>some (k,e)
 | _=>none
def sG(k:AV):Option TypeDesc->Bool
 | some (.int _)=>match k with
   | .a _ _=>true
   | _=>false
 | some .string=>match k with
   | .e _=>true
   | _=>false
 | some .bool=>match k with
   | .b _=>true
   | _=>false
 | _=>false
def zc(t:TypeId)(cs:List AV)(off:Nat):Option AV:=
 ob (P.a0 t) λd=>bif xN (some d)then ob (gT P t) λn=>ob (jW cs off n) λr=>some (.g r)else cs[off]?
def jd(cmp:TypeId->AV->AV->Option Bool)(xs ys:List AV):List Field->Option Bool
 | []=>some true
 | f::fs=>ok (!(f.name == "_")) (ob (zc P f.type xs f.offset) λa=>ob (zc P f.type ys f.offset) λb=>ob (cmp f.type a b) λr=>
   bif r then jd cmp xs ys fs else some false)
def kO(cmp:AV->AV->Option Bool)(elem:TypeId)(n:Nat)(xs ys:List AV)(i:Nat):Nat->Option Bool
 | 0=>some true
 | k+1=>ob (zc P elem xs (i*n)) λa=>ob (zc P elem ys (i*n)) λb=>ob (cmp a b) λr=>
   bif r then kO cmp elem n xs ys (i+1) k else some false
def tJ:AV->Bool
 | .o|.f|.p|.l|.k=>true
 | _=>false
def Ef:AV->Nat
 | .o|.h ..=>1
 | .f|.c ..=>2
 | .p|.q _=>3
 | .l|.i ..=>4
 | .k|.m ..=>5
 | _=>0
def GL:Option TypeDesc->Nat
 | some (.pointer _)=>1
 | some (.slice _)=>2
 | some (.map _ _)=>3
 | some (.func ..)=>4
 | some (.interface _)=>5
 | _=>9
def DG(d:Option TypeDesc)(x y:AV):Option Bool:=
 ok (ν (Ef x) (GL d)&&ν (Ef y) (GL d)&&(tJ x || tJ y)) (some (tJ x&&tJ y))
def Cb(t:TypeId)(a:Bool):AV->Option Bool
 | .b b=>ok (Kf (P.a0 t)) (some (bQ a b))
 | _=>none
def FH(t:TypeId)(k:IntKind)(a:Int):AV->Option Bool
 | .a k' b=>ok ((SK P t).isSome&&zb k k') (some (aa a b))
 | _=>none
def Ex(t:TypeId)(a:List UInt8):AV->Option Bool
 | .e b=>ok (zO P t) (some (ae a b))
 | _=>none
def BV(cmp:TypeId->AV->AV->Option Bool)(t:TypeId)(xs ys:List AV):Option TypeDesc->Option Bool
 | some (.struct fields)=>ob (P.ty.c0 t) λe=>ok (!e.a0) (jd P cmp xs ys fields.toList)
 | some (.array len elem)=>ob (gT P elem) λn=>kO P (cmp elem) elem n xs ys 0 len
 | _=>none
def EI(cmp:TypeId->AV->AV->Option Bool)(t:TypeId)(xs:List AV):AV->Option Bool
 | .g ys=>BV P cmp t xs ys (P.a0 t)
 | _=>none
def nZ(cmp:TypeId->AV->AV->Option Bool)(t a:TypeId)(u:AV)(y:AV):Option Bool:=match y with
 | .m b v=>ok (EM (P.a0 t)) (bif ν a b then ob (P.b0 a) λi=>ok i.comparable (cmp a u v)else some false)
 | y=>DG (P.a0 t) (.m a u) y
def MY(cmp:TypeId->AV->AV->Option Bool)(t:TypeId)(x y:AV):Option Bool:=match x with
 | .b a=>Cb P t a y
 | .a k a=>FH P t k a y
 | .e a=>Ex P t a y
 | .g xs=>EI P cmp t xs y
 | .m a u=>nZ P cmp t a u y
 | x=>DG (P.a0 t) x y
def N5:Nat->TypeId->AV->AV->Option Bool
 | 0,_,_,_=>none
 | d+1,t,x,y=>MY P (N5 d) t x y
end
def fj(G:Nat)(ts:Ts):Operand->Option AV
 | .tmp t=>some (ts.b0 t)
 | .const v=>Ng v
 | .global g=>ok (aS g G) (some (.h g 0))
 | .func f=>some (.i f [] [])
def rV:Operand->Bool
 | .const _=>true
 | _=>false
def Ra(op:BinOp)(lt eq:Bool):Option AV:=match op with
 | .eql=>some (.b eq)
 | .neq=>some (.b !eq)
 | .lss=>some (.b lt)
 | .leq=>some (.b (lt || eq))
 | .gtr=>some (.b !(lt || eq))
 | .geq=>some (.b !lt)
 | _=>none
abbrev nV:Type:=IntKind->Int->Int->Option AV
def Uj:nV:=λk x y=>iU k (BitVec.ofInt k.bits x &&& BitVec.ofInt k.bits y).toNat
def HP:nV:=λk x y=>iU k (BitVec.ofInt k.bits x ||| BitVec.ofInt k.bits y).toNat
def Nn:nV:=λk x y=>iU k (BitVec.ofInt k.bits x ^^^ BitVec.ofInt k.bits y).toNat
def Hf:nV:=λk x y=>iU k (BitVec.ofInt k.bits x &&& ~~~BitVec.ofInt k.bits y).toNat
def VC:nV:=λk a b=>iU k (Int.add a b)
def Wp:nV:=λk a b=>iU k (Int.sub a b)
def Xu:nV:=λk a b=>iU k (Int.mul a b)
def Q5:nV:=λk a b=>ok (!(aa b 0)) (iU k (Int.tdiv a b))
def Ti:nV:=λk a b=>ok (!(aa b 0)) (some (IV k (Int.tmod a b)))
def Tp:nV:=λ_ a b=>some (.b (aa a b))
def QZ:nV:=λ_ a b=>some (.b !(aa a b))
def Qq:nV:=λ_ a b=>some (.b !(ab b a))
def Qr:nV:=λ_ a b=>some (.b (ab a b))
def QY:nV:=λ_ a b=>some (.b !(ab a b))
def Q_:nV:=λ_ a b=>some (.b (ab b a))
def Ee:nV:=λ_ _ _=>none
def Ck:BinOp->nV
 | .add=>VC
 | .sub=>Wp
 | .mul=>Xu
 | .quo=>Q5
 | .rem=>Ti
 | .and=>Uj
 | .or=>HP
 | .xor=>Nn
 | .andNot=>Hf
 | .eql=>Tp
 | .neq=>QZ
 | .lss=>Qq
 | .leq=>Qr
 | .gtr=>QY
 | .geq=>Q_
 | .shl=>Ee
 | .shr=>Ee
def Cf(y:Int)(k:IntKind):Nat:=min y.toNat k.bits
def pI:BinOp->Bool
 | .shl|.shr=>true
 | _=>false
def Fw(op:BinOp)(k:IntKind)(a b:Int):Option AV:=ok (ab 0 b) (match op with
 | .shl=>iU k (a*2^Cf b k)
 | .shr=>some (IV k (a.fdiv (2^Cf b k)))
 | _=>none)
def KF(op:BinOp)(k:IntKind)(a:Int):AV->Option AV
 | .a k' b=>bif pI op then Fw op k a b else ok (zb k k') (Ck op k a b)
 | _=>none
def Jg(op:BinOp)(a:List UInt8):AV->Option AV
 | .e b=>match op with
   | .add=>ok (ξ (a.length+b.length) 1000000) (some (.e (a++b)))
   | op=>Ra op (acg a b) (ae a b)
 | _=>none
def C3(op:BinOp)(r:Option Bool):Option AV:=match op with
 | .eql=>ob r λb=>some (.b b)
 | .neq=>ob r λb=>some (.b !b)
 | _=>none
section
variable(P:fm)
def ot:AV->Bool
 | .j _=>false
 | _=>true
def jK(t:TypeId)(xo yo:Operand)(x y:AV):Bool:=ot x&&(ot y&&match x with
 | .g _=>(ob (P.ty.c0 t) λe=>some (xN (some e.u)&&!e.b0)).getD false
 | .k=>match y with
   | .k=>rV xo || rV yo
   | _=>true
 | _=>true)
def JC(op:BinOp)(t:TypeId)(xo yo:Operand)(x y:AV):Option AV:=match x with
 | .a k a=>KF op k a y
 | .e a=>Jg op a y
 | x=>C3 op (ok (jK P t xo yo x y) (N5 P 100 t x y))
def UC(op:UnOp)(x:AV):Option AV:=match x with
 | .a k n=>match op with
   | .neg=>iU k (Int.sub 0 n)
   | .xor=>Nn k (if k.signed then -1 else k.max) n
   | _=>none
 | .b b=>match op with
   | .not=>some (.b !b)
   | _=>none
 | _=>none
def cellsOf:cD->Option (List AV)
 | .a cs _ _=>some cs
 | _=>none
def mA(C:bg)(o:aB)(id off n:Nat):Option (List AV):=ob (cellsOf (get C o id)) λcs=>jW cs off n
def ab2(C:bg)(o:aB)(t:TypeId):AV->Option AV
 | .h id off=>ob (cellsOf (get C o id)) λcs=>zc P t cs off
 | _=>none
def yr(off:Nat)(vs:List AV):cD->Option cD
 | .a cs true g=>ob (adi cs off vs) λcs'=>some (.a cs' true g)
 | _=>none
def jO(C:bg)(o:aB)(id off:Nat)(vs:List AV):Option aB:=ob (dQ C o id) λx=>ob (yr off vs x) λx'=>some (kV C o id x')
def dM:List AV->Bool
 | []=>true
 | v::vs=>KU v&&dM vs
def yO(C:bg)(o:aB)(t:TypeId)(v:AV):AV->Option aB
 | .h id off=>ob (gT P t) λn=>ok (ν (bU v).length n&&dM (bU v)) (jO C o id off (bU v))
 | _=>none
def zR(hi:Nat):AV->Option Nat
 | .a _ (.ofNat n)=>ok (ξ n hi) (some n)
 | _=>none
def kq(most:Nat)(dflt:Nat):Option AV->Option Nat
 | none=>some dflt
 | some v=>zR most v
def jn(id off size m h l:Nat):AV:=bif ν m l then .c id off (h-l) (.a (m-l))else .c id (off+l*size) (h-l) (.a (m-l))
def xI(s:List UInt8)(lo hi:Option AV):Option AV:=ob (kq s.length s.length hi) λh=>ob (kq h 0 lo) λl=>some (.e ((s.take h).drop l))
def xV(lo hi max:Option AV):Option AV:=ok (max.isNone || hi.isSome) (ob (kq 0 0 max) λ_=>ob (kq 0 0 hi) λ_=>ob (kq 0 0 lo) λ_=>some .f)
def jh(size id off len c:Nat)(lo hi max:Option AV):Option AV:=
 ok (max.isNone || hi.isSome) (ob (kq c c max) λm=>ob (kq m len hi) λh=>ob (kq h 0 lo) λl=>some (jn id off size m h l))
def ph(size id off k h l:Nat):Option AV:=
 bif ν l 0 then some (.c id off h (.b k))else ok (aS l h) (some (.c id (off+l*size) (h-l) (.b (k+l))))
def vu(size id off len k:Nat)(lo hi:Option AV):Option AV:=ob (kq len len hi) λh=>ob (kq h 0 lo) λl=>ph size id off k h l
def nq(size id off len:Nat)(lo hi:Option AV)(mx:AV):Option AV:=
 ok hi.isSome (ob (zR len mx) λm=>ob (kq m len hi) λh=>ob (kq h 0 lo) λl=>some (jn id off size m h l))
def og(size id off len:Nat)(lo hi max:Option AV):fg->Option AV
 | .a c=>jh size id off len c lo hi max
 | .b k=>match max with
   | none=>vu size id off len k lo hi
   | some mx=>nq size id off len lo hi mx
def pU:AV->Option Nat
 | .c _ _ n _=>some n
 | .f=>some 0
 | .e s=>some s.length
 | _=>none
def jx(b:UInt8):AV:=.a .u8 (.ofNat b.toNat)
def jN(C:bg)(o:aB)(size n:Nat):AV->Option (List AV)
 | .c id off len _=>ok (ξ n len) (mA C o id off (n*size))
 | .f=>ok (ν n 0) (some [])
 | .e s=>ok (ξ n s.length) (some ((s.take n).map jx))
 | _=>none
def VK(C:bg)(o:aB)(size n:Nat)(cs:List AV):AV×aB:=(.c (o.b0 C) 0 n (.b 0),o.a0 (.a cs true (some size)))
def zl(size n:Nat):cD->Option (List AV)
 | .a cs true (some g)=>ok (ν g size&&ν cs.length n) (some cs)
 | _=>none
def lB(C:bg)(o:aB)(size n id off len c:Nat)(new:List AV):Option (AV×aB):=
 bif ξ (len+n) c then ob (jO C o id (off+len*size) new) λo'=>some (.c id off (len+n) (.a c),o')
 else ob (mA C o id off (len*size)) λold=>some (VK C o size (len+n) (old++new))
def UR(C:bg)(o:aB)(size n id off len k:Nat)(new:List AV):Option (AV×aB):=
 ok (ν off 0&&ν k 0) (ob (dQ C o id) λx=>ob (zl size (len*size) x) λcs=>some (VK C (kV C o id .b) size (len+n) (cs++new)))
def appendCap(C:bg)(o:aB)(size n id off len:Nat)(new:List AV):fg->Option (AV×aB)
 | .a c=>lB C o size n id off len c new
 | .b k=>UR C o size n id off len k new
def jt(C:bg)(o:aB)(size n:Nat)(new:List AV):AV->Option (AV×aB)
 | .f=>some (VK C o size n new)
 | .c id off len c=>appendCap C o size n id off len new c
 | _=>none
def lW:AV->Bool
 | .f|.c ..=>true
 | _=>false
def PI:AV->Bool
 | .c _ _ len (.a c)=>ξ len c
 | _=>true
def B3(size:Nat):AV->Bool
 | .e _=>ν size 1
 | _=>true
def I9(sl n size:Nat):Bool:=ξ (sl+n) 1000000&&aS 0 size&&ξ size 1000
def s_(t:TypeId):Bool:=match P.b0 t with
 | some i=>ξ i.bytes 100000
 | none=>false
def o6(t:TypeId):Bool:=match P.a0 t with
 | some (.int _)=>false
 | some _=>true
 | none=>false
def pt(C:bg)(o:aB)(sType xType:TypeId)(s x:AV):Option (AV×aB):=
 ob (kr P sType) λelem=>ok (o6 P xType&&s_ P elem&&lW s) (ob (gT P elem) λsize=>ob (lA P elem) λz=>ob (pU x) λn=>ob (pU s) λsl=>
  bif ν n 0 then ok (PI s) (some (s,o))else ok (I9 sl n size&&ν (bU z).length size&&B3 size x) (ob (jN C o size n x) λnew=>ok (dM new) (jt C o size n new s)))
def pc(f:Int->Int->Int)(k:IntKind)(acc:Int):List AV->Option AV
 | []=>some (.a k acc)
 | .a _ y::rest=>pc f k (f acc y) rest
 | _::_=>none
def gY(x y:Int):Int:=bif ab x y then x else y
def kh(x y:Int):Int:=bif ab y x then x else y
def IX(x:AV):Option TypeDesc->Option AV
 | some .string=>match x with
   | .e s=>some (goInt s.length)
   | _=>none
 | some (.slice _)=>match x with
   | .c _ _ n _=>some (goInt n)
   | .f=>some (goInt 0)
   | _=>none
 | some (.array n _)=>some (goInt n)
 | _=>none
def H6(x:AV):Option TypeDesc->Option AV
 | some (.slice _)=>match x with
   | .c _ _ _ (.a n)=>some (goInt n)
   | .f=>some (goInt 0)
   | _=>none
 | _=>none
def L9(a b:Nat):Nat:=bif ξ a b then a else b
def t_(C:bg)(o:aB)(n:Nat)(cs:List AV):AV->Option (AV×aB)
 | .f=>some (goInt n,o)
 | .c id off _ _=>ok (dM cs) (ob (jO C o id off cs) λo'=>some (goInt n,o'))
 | _=>none
def AF(C:bg)(o:aB)(dType:TypeId)(d s:AV):Option (AV×aB):=
 ob (kr P dType) λelem=>ok (lW d) (ob (gT P elem) λsize=>ob (pU d) λdl=>ob (pU s) λsl=>
  ob (jN C o size (L9 sl dl) s) λcs=>t_ C o (L9 sl dl) cs d)
def gS(o:aB)(x:Option AV):Option (AV×aB):=ob x λv=>some (v,o)
def P5(f:Int->Int->Int):List AV->Option AV
 | .a k x::rest=>pc f k x rest
 | _=>none
def two(f:AV->AV->Option (AV×aB)):List AV->Option (AV×aB)
 | [a,b]=>f a b
 | _=>none
def one(f:AV->Option AV):List AV->Option AV
 | [a]=>f a
 | _=>none
def gb(C:bg)(o:aB)(b:Builtin)(ts:List TypeId)(args:List AV):Option (AV×aB):=match b with
 | .len=>gS o (ob ts[0]? λt=>one (λx=>IX x (P.a0 t)) args)
 | .cap=>gS o (ob ts[0]? λt=>one (λx=>H6 x (P.a0 t)) args)
 | .append=>ob ts[0]? λt=>ob ts[1]? λu=>two (λs x=>pt P C o t u s x) args
 | .copy=>ob ts[0]? λt=>two (λd s=>AF P C o t d s) args
 | .min=>gS o (P5 gY args)
 | .max=>gS o (P5 kh args)
 | _=>none
def yU(x:AV):AV->Option Bool
 | .a k b=>match x with
   | .a k' a=>ok (zb k' k) (some (aa a b))
   | _=>none
 | .e b=>match x with
   | .e a=>some (ae a b)
   | _=>none
 | .b b=>match x with
   | .b a=>some (bQ a b)
   | _=>none
 | _=>none
def qq(k:AV):List (AV×AV)->Option (Option AV)
 | []=>some none
 | e::es=>ob (yU k e.1) λr=>bif r then some (some e.2)else qq k es
def lX:cD->Option (List (AV×AV))
 | .f es=>some es
 | _=>none
def Iz(k v:AV):List (AV×AV)->Option (List (AV×AV))
 | []=>none
 | e::es=>ob (yU k e.1) λr=>bif r then some ((k,v)::es)else ob (Iz k v es) λes'=>some (e::es')
def wV(C:bg)(o:aB)(k v:AV):AV->Option (AV×aB)
 | .q id=>ob (dQ C o id) λx=>ob (lX x) λes=>ob (qq k es) λr=>match r with
   | none=>some (bt,kV C o id (.f (es++[(k,v)])))
   | some _=>ob (Iz k v es) λes'=>some (bt,kV C o id (.f es'))
 | _=>none
def py(ok:Bool)(v:AV)(there:Bool):AV:=bif ok then .d [v,.b there]else v
def Xf(C:bg)(o:aB)(elem:TypeId)(ok:Bool)(k:AV):AV->Option AV
 | .q id=>ob (lX (get C o id)) λes=>ob (qq k es) λr=>match r with
   | some v=>some (py ok v true)
   | none=>ob (lA P elem) λz=>some (py ok z false)
 | _=>none
def gz(ρ:Operand->Option AV):List Operand->Option (List AV)
 | []=>some []
 | x::xs=>ob (ρ x) λv=>ob (gz ρ xs) λvs=>some (v::vs)
def oA(ρ:Operand->Option AV):List (Nat×Operand)->Option (List (Nat×AV))
 | []=>some []
 | p::xs=>ob (ρ p.2) λv=>ob (oA ρ xs) λvs=>some ((p.1,v)::vs)
def adk(ρ:Operand->Option AV):Option Operand->Option (Option AV)
 | none=>some none
 | some x=>ob (ρ x) λv=>some (some v)
def wb(fields:Array Field)(i:Nat):Option (Nat×Nat):=ob fields[i]? λf=>ob (gT P f.type) λn=>some (f.offset,n)
def wQ:List Field->Option (List (Nat×Nat))
 | []=>some []
 | f::fs=>ob (gT P f.type) λn=>ob (wQ fs) λr=>some ((f.offset,n)::r)
def Gd(a b:Option AV):AV->Option AV
 | .b true=>a
 | .b false=>b
 | _=>none
def lG(C:bg)(o:aB)(v:AV):Option (AV×aB):=ok (dM (bU v)) (some (.h (o.b0 C) 0,o.a0 (.a (bU v) true none)))
def Fz(z:List AV)(ps:List (Nat×AV)):Option TypeDesc->Option AV
 | some (.struct fields)=>ob (wQ P fields.toList) λpl=>ob (vF (λi=>pl[i]?) z ps) λcs=>some (.g cs)
 | some (.array _ elem)=>ob (gT P elem) λn=>ob (vF (λi=>some (i*n,n)) z ps) λcs=>some (.g cs)
 | _=>none
def Z4(ρ:Operand->Option AV)(t:TypeId)(parts:List (Nat×Operand)):Option AV:=
 ob (lA P t) λz=>ob (oA ρ parts) λps=>Fz P (bU z) ps (P.a0 t)
def iq(C:bg)(ρ:Operand->Option AV)(o:aB)(t:TypeId)(len:Nat)(parts:List (Nat×Operand)):Option (AV×aB):=
 ob (kr P t) λelem=>ob (gT P elem) λn=>ob (lA P elem) λz=>ob (oA ρ parts) λps=>
  ok (ξ (len*n) 10000&&ν (bU z).length n&&aS 0 n) (ob (vF (λi=>some (i*n,n)) (mX (bU z) len) ps) λcs=>
   ok (dM cs) (some (.c (o.b0 C) 0 len (.a len),o.a0 (.a cs true none))))
def na(C:bg)(o:aB)(t:TypeId)(l c:AV):Option (AV×aB):=
 ob (kr P t) λelem=>ob (gT P elem) λn=>ob (lA P elem) λz=>ob (zR 10000 c) λcn=>ob (zR cn l) λln=>
  ok (ν (bU z).length n&&aS 0 n&&ξ n 10000&&s_ P elem&&dM (bU z))
   (some (.c (o.b0 C) 0 ln (.a cn),o.a0 (.a (mX (bU z) cn) true none)))
def w7(n:Int):Option TypeDesc->Option AV
 | some (.int k)=>iU k n
 | some .string=>some (.e (Utf8.encode n).data.toList)
 | _=>none
def mT:Option TypeDesc->Bool
 | some (.int .u8)=>true
 | _=>false
def o8(C:bg)(o:aB)(s:List UInt8):Option TypeDesc->Option (AV×aB)
 | some .string=>some (.e s,o)
 | some (.slice e)=>ok (mT (P.a0 e)&&ξ s.length 1000000) (some (.c (o.b0 C) 0 s.length (.b 0),o.a0 (.a (s.map jx) false none)))
 | _=>none
def ya:AV->Option UInt8
 | .a .u8 (.ofNat n)=>ok (aS n 256) (some (UInt8.ofNat n))
 | _=>none
def Uo:List AV->Option (List UInt8)
 | []=>some []
 | v::rest=>ob (ya v) λb=>ob (Uo rest) λs=>some (b::s)
def po(C:bg)(o:aB)(id off len:Nat)(src dst:Option TypeDesc):Option AV:=
 ob (Di src) λe=>ok (mT (P.a0 e)&&zF dst) (ob (mA C o id off len) λcs=>ob (Uo cs) λs=>some (.e s))
def jA(C:bg)(o:aB)(src dst:TypeId):AV->Option (AV×aB)
 | .a _ n=>ok (P.a0 src).isSome (gS o (w7 n (P.a0 dst)))
 | .e s=>ok (zF (P.a0 src)) (o8 P C o s (P.a0 dst))
 | .c id off len _=>gS o (po P C o id off len (P.a0 src) (P.a0 dst))
 | _=>none
def xA(t:TypeId)(v:AV):Option AV:=match P.a0 t with
 | some (.interface _)=>none
 | some _=>some (.m t v)
 | none=>none
def sw(t:TypeId)(lo hi mx:Option AV):AV->Option AV
 | .h id off=>ob (Ds P t) λne=>ob (gT P ne.2) λsize=>jh size id off ne.1 ne.1 lo hi mx
 | .e s=>ok (zO P t&&mx.isNone) (xI s lo hi)
 | .f=>ob (kr P t) λe=>ob (gT P e) λ_=>xV lo hi mx
 | .c id off len c=>ob (kr P t) λe=>ob (gT P e) λsize=>og size id off len lo hi mx c
 | _=>none
def Jd(n:Nat):AV->Option AV
 | .h id off=>some (.h id (off+n))
 | _=>none
def qx(s:TypeId)(f:Nat)(x:AV):Option AV:=ob (wI P s) λfields=>ob (wb P fields f) λq=>ok (aS 0 q.2) (Jd q.1 x)
def Ew(s:TypeId)(f:Nat):AV->Option AV
 | .g cs=>ob (wI P s) λfields=>ob fields[f]? λfd=>zc P fd.type cs fd.offset
 | _=>none
def HG:AV->Option Nat
 | .a _ (.ofNat i)=>some i
 | _=>none
def aau(t:TypeId)(i:Nat):AV->Option AV
 | .h id off=>ob (Ds P t) λne=>ok (aS i ne.1) (ob (gT P ne.2) λn=>some (.h id (off+i*n)))
 | .c id off len _=>ob (kr P t) λe=>ok (aS i len) (ob (gT P e) λn=>some (.h id (off+i*n)))
 | _=>none
def yk(t:TypeId)(i:Nat):AV->Option AV
 | .g cs=>ob (Ds P t) λne=>ok (aS i ne.1) (ob (gT P ne.2) λn=>zc P ne.2 cs (i*n))
 | .e s=>ok (zO P t) (ob s[i]? λb=>some (jx b))
 | _=>none
def BC(C:bg)(o:aB)(t:TypeId)(m k v:AV):Option (AV×aB):=
 ob (H3 (P.a0 t)) λke=>ok (sG k (P.a0 ke.1)) (wV C o k v m)
def C_(C:bg)(o:aB)(t:TypeId)(okv:Bool)(m k:AV):Option AV:=
 ob (H3 (P.a0 t)) λke=>ok (sG k (P.a0 ke.1)) (Xf P C o ke.2 okv k m)
def Fe(C:bg)(o:aB)(t:TypeId):AV->Option (AV×aB)
 | .e s=>ok (zO P t) (some (.h (o.b0 C) 0,o.a0 (.d s 0)))
 | _=>none
def Dl(C:bg)(o:aB)(id:Nat)(s:List UInt8)(pos:Nat):AV×aB:=
 bif aS pos s.length then(.d [.b true,goInt pos,H0 .i32 .ofNat (Utf8.decode ⟨⟨s⟩⟩ pos).1],kV C o id (.d s (pos+(Utf8.decode ⟨⟨s⟩⟩ pos).2)))
 else(.d [.b false],o)
def ace(C:bg)(o:aB)(id:Nat):cD->Option (AV×aB)
 | .d s pos=>some (Dl C o id s pos)
 | _=>none
def DN(C:bg)(o:aB):AV->Option (AV×aB)
 | .h id 0=>ob (dQ C o id) λx=>ace C o id x
 | _=>none
def Ei(i:Nat):AV->Option AV
 | .d vs=>vs[i]?
 | _=>none
def z_:AV->Option AV
 | .h id off=>some (.h id off)
 | .i f a b=>some (.i f a b)
 | _=>none
def tT(ρ:Operand->Option AV)(first captured:List Operand):Fn->Option AV
 | .func f=>ob (gz ρ first) λa=>ob (gz ρ captured) λb=>some (.i f a b)
 | _=>none
end
abbrev gq:Type:=fm->bg->(Operand->Option AV)->aB->Option (AV×aB)
def th(x:Operand):gq:=λP C ρ o=>gS o (ρ x)
def xT(c a b:Operand):gq:=λP C ρ o=>gS o (ob (ρ c) (Gd (ρ a) (ρ b)))
def pq(t:TypeId):gq:=λP C ρ o=>ob (lA P t) (lG C o)
def xG(x:Operand):gq:=λP C ρ o=>ob (ρ x) (lG C o)
def ww(t:TypeId)(parts:Array (Nat×Operand)):gq:=λP C ρ o=>gS o (Z4 P ρ t parts.toList)
def qa(t:TypeId)(len:Nat)(parts:Array (Nat×Operand)):gq:=λP C ρ o=>iq P C ρ o t len parts.toList
def tN(t:TypeId)(a:Operand):gq:=λP C ρ o=>gS o (ob (ρ a) (ab2 P C o t))
def oY(t:TypeId)(a x:Operand):gq:=λP C ρ o=>ob (ρ a) λp=>ob (ρ x) λv=>ob (yO P C o t v p) λo'=>some (bt,o')
def mW(x:Operand):gq:=λP C ρ o=>gS o (ob (ρ x) z_)
def DX(op:BinOp)(t:TypeId)(x y:Operand):gq:=λP C ρ o=>gS o (ob (ρ x) λa=>ob (ρ y) λb=>JC P op t x y a b)
def Kp(op:UnOp)(x:Operand):gq:=λP C ρ o=>gS o (ob (ρ x) (UC op))
def ip(src dst:TypeId)(x:Operand):gq:=λP C ρ o=>ob (ρ x) (jA P C o src dst)
def wz(t:TypeId)(x:Operand):gq:=λP C ρ o=>gS o (ob (ρ x) (xA P t))
def Ca(fn:Fn)(first captured:Array Operand):gq:=λP C ρ o=>gS o (tT ρ first.toList captured.toList fn)
def abo(r:Option Operand):gq:=λP C ρ o=>ok r.isNone (some (.q (o.b0 C),o.a0 (.f [])))
def aay(t:TypeId)(m k x:Operand):gq:=λP C ρ o=>ob (ρ m) λmv=>ob (ρ k) λkv=>ob (ρ x) λv=>BC P C o t mv kv v
def ik(t:TypeId)(l c:Operand):gq:=λP C ρ o=>ob (ρ l) λlv=>ob (ρ c) λcv=>na P C o t lv cv
def sg(t:TypeId)(x:Operand)(lo hi mx:Option Operand):gq:=λP C ρ o=>gS o (ob (ρ x) λv=>ob (adk ρ lo) λl=>ob (adk ρ hi) λh=>ob (adk ρ mx) λm=>sw P t l h m v)
def aaC(s:TypeId)(x:Operand)(f:Nat):gq:=λP C ρ o=>gS o (ob (ρ x) (qx P s f))
def wB(s:TypeId)(x:Operand)(f:Nat):gq:=λP C ρ o=>gS o (ob (ρ x) (Ew P s f))
def jq(t:TypeId)(x ix:Operand):gq:=λP C ρ o=>gS o (ob (ρ x) λv=>ob (ρ ix) λi=>ob (HG i) λn=>aau P t n v)
def rz(t:TypeId)(x ix:Operand):gq:=λP C ρ o=>gS o (ob (ρ x) λv=>ob (ρ ix) λi=>ob (HG i) λn=>yk P t n v)
def oe(t:TypeId)(x ix:Operand)(okv:Bool):gq:=λP C ρ o=>gS o (ob (ρ x) λm=>ob (ρ ix) λk=>C_ P C o t okv m k)
def rJ(t:TypeId)(x:Operand):gq:=λP C ρ o=>ob (ρ x) (Fe P C o t)
def qS(it:Operand)(s:Bool):gq:=λP C ρ o=>ok s (ob (ρ it) (DN C o))
def pG(t:Operand)(i:Nat):gq:=λP C ρ o=>gS o (ob (ρ t) (Ei i))
def Te:gq:=λ_ _ _ _=>none
def gW:Op->gq
 | .move x=>th x
 | .assign x=>th x
 | .pick c a b=>xT c a b
 | .alloc t=>pq t
 | .box _ x=>xG x
 | .build t parts=>ww t parts
 | .buildSlice t len parts=>qa t len parts
 | .load t a=>tN t a
 | .store t a x=>oY t a x
 | .nilCheck x=>mW x
 | .binOp op t x y _=>DX op t x y
 | .unOp op _ x=>Kp op x
 | .convert src dst x=>ip src dst x
 | .makeInterface t x=>wz t x
 | .makeFunc fn first captured=>Ca fn first captured
 | .makeMap _ r=>abo r
 | .insert t m k x=>aay t m k x
 | .mapUpdate t m k x=>aay t m k x
 | .makeSlice t l c=>ik t l c
 | .slice t x lo hi mx=>sg t x lo hi mx
 | .fieldAddr s x f=>aaC s x f
 | .field s x f=>wB s x f
 | .indexAddr t x ix=>jq t x ix
 | .index t x ix=>rz t x ix
 | .lookup t x ix okv=>oe t x ix okv
 | .range t x=>rJ t x
 | .next it s=>qS it s
 | .extract t i=>pG t i
 | _=>Te
def Eo(P:fm)(C:bg)(ρ:Operand->Option AV)(o:aB)(op:Op):Option (AV×aB):=gW op P C ρ o
def rD(lo:Nat):Nat->AV->Bool
 | 0,_=>false
 | d+1,v=>match v with
   | .h id _=>aS id lo
   | .c id _ _ _=>aS id lo
   | .q id=>aS id lo
   | .n id=>aS id lo
   | .i _ a b=>a.all (rD lo d)&&b.all (rD lo d)
   | .m _ v=>rD lo d v
   | .g cs=>cs.all (rD lo d)
   | .d cs=>cs.all (rD lo d)
   | _=>true
def bc(lo:Nat)(vs:List AV):Bool:=vs.all (rD lo 20)
inductive AX where
 | a
 | b (id:Nat)
 | c
 deriving Inhabited
structure St where
 ts:Ts
 tn:Nat
 o:aB
 ds:List Nat
 ro:Option Nat
 deriving Inhabited
structure cL where
 G:Nat
 b0:FuncId->List Nat
 d0:FuncId->Bool
 c0:FuncId->bg->List AV->aB->Option (AV×aB)
 a0:aB
inductive De where
 | b
 | e
 | c
 | d
 | a
 | f
def P4:Builtin->De
 | .len|.cap|.min|.max=>.b
 | _=>.f
def PB:Callee->De
 | .builtin b=>P4 b
 | .value _=>.a
 | _=>.f
def eR:Op->De
 | .move _|.assign _|.pick ..|.build ..|.nilCheck _|.binOp ..|.unOp ..|.makeInterface ..|.makeFunc ..|.slice ..|.fieldAddr ..|.field ..|.extract ..|.indexAddr ..|.index ..=>.b
 | .alloc _|.box ..|.buildSlice ..=>.e
 | .load ..=>.c
 | .lookup ..|.convert ..=>.d
 | .call c=>PB c.callee
 | _=>.f
def oH:De->Bool
 | .b=>true
 | _=>false
def m_:De->Bool
 | .c=>true
 | _=>false
def cW:AV->Option Nat
 | .h id _=>some id
 | .c id _ _ _=>some id
 | .q id=>some id
 | _=>none
def hI(args:List AV):List Nat->List Nat
 | []=>[]
 | p::ps=>match ob args[p]? cW with
   | some id=>id::hI args ps
   | none=>hI args ps
inductive gD where
 | c
 | a (id:Nat)
 | b (ids:List Nat)
def acH:Option Nat->gD
 | some id=>.b [id]
 | none=>.b []
def YX:List Nat->gD
 | []=>.c
 | l=>.b l
def Mi:Option Nat->gD
 | some id=>.a id
 | none=>.b []
def GE(cfg:cL)(vs:List AV):AV->gD
 | .i f first captured=>YX (hI (first++vs++captured) (cfg.b0 f))
 | _=>.b []
def G6(ρ:Operand->Option AV)(args:List Operand):Builtin->gD
 | .len|.cap|.min|.max=>.c
 | _=>acH (ob args[0]? λx=>ob (ρ x) cW)
def vX(cfg:cL)(ρ:Operand->Option AV)(args:List Operand):Callee->gD
 | .builtin b=>G6 ρ args b
 | .value f=>match ρ f with
   | some fv=>match gz ρ args with
     | some vs=>GE cfg vs fv
     | none=>.b []
   | none=>.b []
 | _=>.b []
def Ms(cfg:cL)(ρ:Operand->Option AV)(op:Op):De->gD
 | .f=>.b []
 | _=>.c
def cX(cfg:cL)(ρ:Operand->Option AV):Op->gD
 | .load _ a=>Mi (ob (ρ a) cW)
 | .store _ a _=>acH (ob (ρ a) cW)
 | .insert _ m _ _=>acH (ob (ρ m) cW)
 | .mapUpdate _ m _ _=>acH (ob (ρ m) cW)
 | .next it _=>acH (ob (ρ it) cW)
 | .call c=>vX cfg ρ c.args.toList c.callee
 | op=>Ms cfg ρ op (eR op)
def nP(n:Nat):List Nat->Bool
 | []=>true
 | x::xs=>aS x n&&nP n xs
def xU(n:Nat):gD->Bool
 | .b ids=>nP n ids
 | _=>true
def vH(id:Nat):List Nat->Bool
 | []=>false
 | x::xs=>ν x id || vH id xs
def Ly{α:Type}(k:Nat->α):Nat->α
 | 0=>k 0
 | n+1=>k (n+1)
def EH{α:Type}(k:List Nat->α):List Nat->α
 | []=>k []
 | x::xs=>k (x::xs)
def lN(acc:List Nat)(n j:Nat):Nat:=bif aS j n then acc.getD (n-1-j) 0 else 0
def Wb(acc:List Nat)(n:Nat):List Edge->Nat->Nat
 | [],s=>s
 | e::es,s=>Wb acc n es (bif Region.binds .any e then s ||| 2^e.on ||| lN acc n e.on else s)
def qN:List Oper->List Nat
 | []=>[]
 | o::prev=>EH (λacc=>Ly (λv=>v::acc) (Wb acc prev.length o.after.toList 0)) (qN prev)
def zY(acc:List Nat)(n i j:Nat):Bool:=(lN acc n j).testBit i
def BL(acc:List Nat)(n i j:Nat):Bool:=bif ξ i j then zY acc n i j else zY acc n j i
def Xi:Operand->Option Tmp
 | .tmp t=>some t
 | _=>none
def EK(ops:Array Oper):Option (Nat×Bool)->Option Tmp
 | some jw=>ob ops[jw.1]? λo=>o.dst
 | none=>none
def oP(ops:Array Oper)(o:Oper):List Tmp:=o.dst.toList++(EK ops o.guard).toList++o.op.operands.toList.filterMap Xi
def PP(t:Tmp):Option Tmp->Bool
 | some d=>ν d t
 | none=>false
def Kq(acc:List Nat)(n k:Nat)(t:Tmp):Nat->List Oper->Bool
 | _,[]=>true
 | j,o::rest=>(!PP t o.dst || ν j k || BL acc n j k)&&Kq acc n k t (j+1) rest
def NB(ops:Array Oper)(acc:List Nat):Nat->List Oper->Bool
 | _,[]=>true
 | k,o::rest=>(oP ops o).all (λt=>Kq acc ops.size k t 0 ops.toList)&&NB ops acc (k+1) rest
def GW(j:Nat):List Edge->Bool
 | []=>true
 | e::es=>(!Region.binds .any e || aS e.on j)&&GW j es
def GY:Nat->List Oper->Bool
 | _,[]=>true
 | j,o::rest=>GW j o.after.toList&&GY (j+1) rest
def Hb(ops:Array Oper):Option (List Nat):=EH (λacc=>ok (NB ops acc 0 ops.toList&&GY 0 ops.toList) (some acc)) (qN ops.toList.reverse)
def sN(j:Nat)(ids:List Nat):List (Nat×gD)->Bool
 | []=>true
 | e::rest=>(match e.2 with
   | .a id=>!(ν e.1 j&&vH id ids)
   | _=>true)&&sN j ids rest
def yC(acc:List Nat)(n:Nat)(log:List (Nat×gD))(i:Nat)(ids:List Nat):Nat->List Oper->Bool
 | _,[]=>true
 | j,o::rest=>(ν i j || oH (eR o.op) || BL acc n i j || (m_ (eR o.op)&&sN j ids log))&&yC acc n log i ids (j+1) rest
def XT(ops:Array Oper)(acc:List Nat)(log:List (Nat×gD)):List (Nat×gD)->Bool
 | []=>true
 | e::rest=>(match e.2 with
   | .b ids=>yC acc ops.size log e.1 ids 0 ops.toList
   | _=>true)&&XT ops acc log rest
def B0(want:Bool):Value->Bool
 | .bool b=>bif want then b else !b
 | _=>false
def yS(want:Bool):AV->Bool
 | .b b=>bif want then b else !b
 | .j v=>B0 want v
 | _=>false
def rn(ts:Ts)(want:Bool):Option Tmp->Bool
 | some t=>yS want (ts.b0 t)
 | none=>false
def ll(ops:Array Oper)(ts:Ts):Option (Nat×Bool)->Bool
 | none=>true
 | some jw=>match ops[jw.1]? with
   | some o=>rn ts jw.2 o.dst
   | none=>false
def jm(st:St)(v:AV)(o:aB):Option Tmp->Option St
 | some d=>ok (aS d st.tn&&aS d 1000000) (some ⟨Ts.k0 20 st.ts d v,st.tn,o,st.ds,st.ro⟩)
 | none=>some ⟨st.ts,st.tn,o,st.ds,st.ro⟩
section
variable(P:fm)(cfg:cL)(call:bg->FuncId->List AV->aB->Option (AV×aB))(rnd:bg->Nat->List AV->aB->Option (AV×aB))(C:bg)
def G_(vs:List AV)(o:aB):AV->Option (AV×aB)
 | .i f first captured=>call C f (first++vs++captured) o
 | .n id=>rnd C id vs o
 | _=>none
def tP:bg->Nat->List AV->aB->Option (AV×aB):=λ_ _ _ _=>none
def sQ(ρ:Operand->Option AV)(o:aB)(c:Call):Option (AV×aB):=match c.callee with
 | .value f=>ob (ρ f) λfv=>ob (gz ρ c.args.toList) λvs=>G_ call rnd C vs o fv
 | .builtin b=>ob (gz ρ c.args.toList) λvs=>gb P C o b c.argTypes.toList vs
 | _=>none
def gQ(ρ:Operand->Option AV)(o:aB):Op->Option (AV×aB)
 | .call c=>sQ P call rnd C ρ o c
 | op=>Eo P C ρ o op
def CJ(ops:Array Oper):List Oper->St->Option St
 | [],st=>some st
 | op::rest,st=>ob (bif ll ops st.ts op.guard then ob (gQ P call rnd C (fj cfg.G st.ts) st.o op.op) λr=>jm st r.1 r.2 op.dst else jm st bt st.o op.dst) (CJ ops rest)
def qo(ops:Array Oper):Nat->List Oper->St->List (Nat×gD)->Option (St×List (Nat×gD))
 | _,[],st,log=>some (st,log)
 | i,op::rest,st,log=>
   bif ll ops st.ts op.guard then ob (gQ P call tP C (fj cfg.G st.ts) st.o op.op) λr=>ob (jm st r.1 r.2 op.dst) λst'=>
    ok (xU (C.lo+st.o.n) (cX cfg (fj cfg.G st.ts) op.op)) (qo ops (i+1) rest st' ((i,cX cfg (fj cfg.G st.ts) op.op)::log))
   else ob (jm st bt st.o op.dst) λst'=>qo ops (i+1) rest st' ((i,.c)::log)
def kg(callI:bg->FuncId->List AV->aB->Option (AV×aB))(ops:Array Oper)(draw:Bool)(st:St):Option St:=
 bif draw then ob (Hb ops) λacc=>ob (qo P cfg call C ops 0 ops.toList st []) λr=>ok (XT ops acc r.2 r.2) (some r.1)
 else CJ P cfg callI rnd C ops ops.toList st
def DK(st:St):List ResultVar->Option (List AV)
 | []=>some []
 | .tmp t::rest=>ob (DK st rest) λvs=>some (st.ts.b0 t::vs)
 | .cell a t::rest=>ob (ab2 P C st.o t (st.ts.b0 a)) λv=>ob (DK st rest) λvs=>some (v::vs)
end
def w_:List AV->AV
 | [v]=>v
 | vs=>.d vs
def gy(C:bg)(o:aB):List Nat->List (Nat×cD)
 | []=>[]
 | id::ids=>bif vH id ids then gy C o ids else match dQ C o id with
   | some x=>(id,x)::gy C o ids
   | none=>gy C o ids
def p8(C:bg)(o:aB):List (Nat×cD)->aB
 | []=>o
 | p::rest=>p8 C (kV C o p.1 p.2) rest
def HK:Nat->AV->Bool
 | 0,_=>false
 | d+1,v=>match v with
   | .n _=>true
   | .i _ a b=>a.any (HK d) || b.any (HK d)
   | .m _ v=>HK d v
   | .g cs=>cs.any (HK d)
   | .d cs=>cs.any (HK d)
   | _=>false
def Dx(vs:List AV):Bool:=vs.any (HK 5)
def qQ(C:bg)(o:aB):List Nat->Option aB
 | []=>some o
 | d::ds=>match dQ C o d with
   | some .e=>qQ C (kV C o d .b) ds
   | _=>none
section
variable(P:fm)(cfg:cL)
def aY(f:FuncId):Option (Func×Code):=ob (P.fn.c0 f) λfn=>ob fn.body λc=>some (fn,c)
def wj(C:bg)(fn:Func)(r:AX×St):Option (AV×aB):=match r.1 with
 | .b _=>none
 | _=>ob (qQ C r.2.o r.2.ds) λo=>ob (DK P C ⟨r.2.ts,r.2.tn,o,[],none⟩ fn.results.toList) λvs=>some (w_ vs,o)
def jS(fn:Func)(args:List AV)(o:aB):St:=⟨Ts.j0 0 .a0 args,max args.length fn.ntmps,o,[],none⟩
def Cg(C:bg)(o:aB)(le:List (Nat×cD))(r:AV×aB):AV×aB:=match le with
 | []=>bif rD (C.lo+o.n) 20 r.1 then(r.1,o)else(r.1,⟨r.2.n+o.n,r.2.os++o.os,o.le⟩)
 | _::_=>(r.1,p8 C ⟨r.2.n+o.n,r.2.os++o.os,o.le⟩ r.2.le)
def lI(code:bg->Code->St->Option (AX×St))(C:bg)(fn:Func)(c:Code)(args:List AV)(o:aB):Option (AV×aB):=
 ok (ξ args.length 1000) (ob (code C c (jS fn args o)) (wj P C fn))
def A9(code:bg->Code->St->Option (AX×St))(C:bg)(fn:Func)(c:Code)(args:List AV)(o:aB)(le:List (Nat×cD)):Option (AV×aB):=
 ob (lI P code ⟨(C.lo,o)::C.B,C.lo+o.n⟩ fn c args ⟨0,[],le⟩) λr=>some (Cg C o le r)
def An(code:bg->Code->St->Option (AX×St))(fn:Func)(c:Code)(args:List AV):Option AV:=
 ob (lI P code ⟨[(0,cfg.a0)],cfg.a0.n⟩ fn c args ⟨0,[],[]⟩) λr=>ok (rD cfg.a0.n 20 r.1) (some r.1)
def DZ(code:bg->Code->St->Option (AX×St))(C:bg)(inl:Bool)(args:List AV)(o:aB)(le:List Nat)(fc:Func×Code):Option (AV×aB):=
 bif inl&&Dx args then lI P code C fc.1 fc.2 args o else A9 P code C fc.1 fc.2 args o (gy C o le)
def D6(inl:Bool)(code:bg->Code->St->Option (AX×St))(C:bg)(f:FuncId)(args:List AV)(o:aB):Option (AV×aB):=
 ob (aY P f) λfc=>bif cfg.d0 f&&bc cfg.a0.n args then ob (An P cfg code fc.1 fc.2 args) λv=>some (v,o)
  else DZ P code C inl args o (hI args (cfg.b0 f)) fc
def aaB(inl:Bool)(code:bg->Code->St->Option (AX×St))(C:bg)(f:FuncId)(args:List AV)(o:aB):Option (AV×aB):=match cfg.c0 f C args o with
 | some r=>some r
 | none=>D6 P cfg inl code C f args o
def O2:LoopState->Bool
 | .ready=>true
 | _=>false
def Sl:LoopState->Bool
 | .busy=>true
 | _=>false
def Hp(tn:Nat)(ts:Ts):List Tmp->List AV->Option Ts
 | [],[]=>some ts
 | t::ps,v::vs=>ok (aS t tn&&aS t 1000000) (Hp tn (Ts.k0 20 ts t v) ps vs)
 | _,_=>none
def qw(C:bg)(o:aB)(id:Nat):Option AK:=match dQ C o id with
 | some (.c r)=>some r
 | _=>none
def abg:AX->Option Code
 | .a=>none
 | .b id=>some (.exit id)
 | .c=>some .ret
def lY:AX->LoopState
 | .a=>.ready
 | _=>.done
def qu:AX->Bool
 | .a=>true
 | _=>false
def u_(C:bg)(id:Nat)(x:AX×St):Option (AV×aB):=
 ob (qw C x.2.o id) λr=>some (.b (qu x.1),kV C x.2.o id (.c ⟨lY x.1,abg x.1,r.ts,r.tn,r.b0,r.a0,r.c0,r.d0⟩))
def oO(code:bg->Code->St->Option (AX×St))(C:bg)(id:Nat)(body:Code)(x:AX×St):Option (AV×aB):=
 ok (qu x.1) (ob (qw C x.2.o id) λr=>ok (O2 r.f0)
  (ob (code C body ⟨x.2.ts,x.2.tn,kV C x.2.o id (.c ⟨.busy,r.e0,r.ts,r.tn,r.b0,r.a0,r.c0,r.d0⟩),x.2.ds,x.2.ro⟩) (u_ C id)))
def qJ(code:bg->Code->St->Option (AX×St))(C:bg)(id:Nat)(args:List AV)(o:aB):Option (AV×aB):=
 ob (qw C o id) λr=>ob (Hp r.tn r.ts r.b0.toList args) λts=>ob (code C r.a0 ⟨ts,r.tn,o,[],some id⟩) (oO code C id r.c0)
def v_(f:St->Option (AX×St))(r:AX×St):Option (AX×St):=match r.1 with
 | .a=>f r.2
 | _=>some r
def lQ(id:Nat)(r:AX×St):AX×St:=match r.1 with
 | .b j=>bif ν j id then(.a,r.2)else r
 | _=>r
def Kl(f:Code->Option (AX×St))(a b:Code):AV->Option (AX×St)
 | .b true=>f a
 | .b false=>f b
 | _=>none
end
abbrev Vc:Type:=fm->cL->(bg->Code->St->Option (AX×St))->bg->St->Option (AX×St)
def PD:Vc:=λ_ _ _ _ st=>some (.a,st)
def Nk(a b:Code):Vc:=λ_ _ code C st=>ob (code C a st) (v_ (code C b))
def Ho(c:Operand)(a b:Code):Vc:=λ_ cfg code C st=>ob (fj cfg.G st.ts c) (Kl (λc=>code C c st) a b)
def Bq(id:Nat)(b:Code):Vc:=λ_ _ code C st=>ob (code C b st) λr=>some (lQ id r)
def adD(b:Code):Vc:=λ_ _ code C st=>ob (code C b st) (v_ (code C (.loop b)))
def LJ(b:Code):Vc:=λ_ _ code C st=>code C b st
def Wt(id:Nat):Vc:=λ_ _ _ _ st=>some (.b id,st)
def Zm:Vc:=λ_ _ _ _ st=>some (.c,st)
def W3(ops:Array Oper)(draw:Bool):Vc:=λP cfg code C st=>ob (kg P cfg (aaB P cfg false code) (qJ code) C (aaB P cfg true code) ops draw st) λst'=>some (.a,st')
def aaS(C:bg)(st:St):Option (Nat×aB×List Nat):=match st.ro with
 | none=>some (st.o.b0 C,st.o.a0 .e,st.o.b0 C::st.ds)
 | some i=>ob (qw C st.o i) λr=>some (r.d0,st.o,st.ds)
def Hn:Option Code->Option AX
 | none=>some .a
 | some .ret=>some .c
 | some (.exit id)=>some (.b id)
 | some _=>none
def xX(C:bg)(st:St)(l:Nat)(ds:List Nat)(r:AV×aB):Option (AX×St):=
 ob (qw C r.2 l) λq=>ok (!Sl q.f0) (ob (Hn q.e0) λx=>some (x,⟨st.ts,st.tn,kV C r.2 l (.c ⟨.exhausted,q.e0,q.ts,q.tn,q.b0,q.a0,q.c0,q.d0⟩),ds,st.ro⟩))
def yv(P:fm)(code:bg->Code->St->Option (AX×St))(C:bg)(l:Nat)(o:aB):AV->Option (AV×aB)
 | .i f first captured=>ob (aY P f) λfc=>lI P code C fc.1 fc.2 (first++[.n l]++captured) o
 | _=>none
def Bj(g:Operand)(ps:Array Tmp)(assign body:Code):Vc:=λP cfg code C st=>
 ob (fj cfg.G st.ts g) λgv=>ob (aaS C st) λe=>
  ob (yv P code C (e.2.1.b0 C) (e.2.1.a0 (.c ⟨.ready,none,st.ts,st.tn,ps,assign,body,e.1⟩)) gv) (xX C st (e.2.1.b0 C) e.2.2)
def VH:Vc:=λ_ _ _ _ _=>none
def fN:Code->Vc
 | .skip=>PD
 | .label _=>PD
 | .seq a b=>Nk a b
 | .cond c a b=>Ho c a b
 | .block id b=>Bq id b
 | .loop b=>adD b
 | .scope b=>LJ b
 | .exit id=>Wt id
 | .ret=>Zm
 | .region _ ops draw=>W3 ops draw
 | .rangeFunc g ps assign body=>Bj g ps assign body
 | _=>VH
def eZ(P:fm)(cfg:cL):Nat->bg->Code->St->Option (AX×St)
 | 0,_,_,_=>none
 | n+1,C,c,st=>fN c P cfg (eZ P cfg n) C st
end Go.Ev
