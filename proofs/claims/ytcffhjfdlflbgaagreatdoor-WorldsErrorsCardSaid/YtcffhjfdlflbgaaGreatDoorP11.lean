import Derived.Test.YtcffhjfdlflbgaaGreatDoorP10
set_option linter.all false
open Bool renaming false_eq_true->ν,and_eq_true->ξ
open Nat renaming beq->ο
set_option linter.all false
set_option maxRecDepth 100000
set_option maxHeartbeats 4000000
namespace Go.Ev
open Go
variable{cfg':cL}{C:bg}{P:Program}{T:fm}{f:FuncId}{v y x:AV}{b:Bool}{k:IntKind}{n off size id:Nat}{op:BinOp}
def KY(x:Bool):AV->Bool
 | .b y=>bQ x y
 | _=>false
def PM(k:IntKind)(x:Int):AV->Bool
 | .a l y=>zb k l&&aa x y
 | _=>false
def Pj(x:List UInt8):AV->Bool
 | .e y=>ae x y
 | _=>false
def PC(i o:Nat):AV->Bool
 | .h j p=>ο i j&&ο o p
 | _=>false
def CB:AV->Bool
 | .o=>true
 | _=>false
def xy:AV->Bool
 | .f=>true
 | _=>false
def w8:AV->Bool
 | .k=>true
 | _=>false
def Ht(t:TypeId)(f:AV->Bool):AV->Bool
 | .m u v=>ο t u&&f v
 | _=>false
def PL(f:List AV->Bool):AV->Bool
 | .g vs=>f vs
 | _=>false
def Hl(f:List AV->Bool):AV->Bool
 | .d vs=>f vs
 | _=>false
def yW(f:AV->AV->Bool):List AV->List AV->Bool
 | [],[]=>true
 | x::xs,y::ys=>f x y&&yW f xs ys
 | _,_=>false
def CU:Nat->AV->AV->Bool
 | 0,_=>λ_=>false
 | d+1,a=>match a with
   | .b x=>KY x
   | .a k x=>PM k x
   | .e x=>Pj x
   | .h i o=>PC i o
   | .o=>CB
   | .f=>xy
   | .k=>w8
   | .m t v=>Ht t (CU d v)
   | .g xs=>PL (yW (CU d) xs)
   | .d xs=>Hl (yW (CU d) xs)
   | _=>λ_=>false
theorem rq{f:AV->AV->Bool}(hf:∀a b,f a b->a=b):∀{xs ys:List AV},yW f xs ys->xs=ys
 | [],[],_=>rfl
 | x::xs,y::ys,h=>by
   rw[yW,ξ]at h;rw[hf x y h.1,rq hf h.2]
 | [],_::_,h=>by cases h
 | _::_,[],h=>by cases h
theorem Bl:∀(d:Nat) (a b:AV),CU d a b->a=b
 | 0,a,b,h=>by cases h
 | d+1,a,b,h=>by
   have ih:=Bl d;unfold CU at h;cases a<;>simp only[ν]at h
   case b x=>cases b<;>simp only[KY,ν,nc,beq_iff_eq]at h;rw[h]
   case a k x=>
    cases b<;>simp only[PM,ν,ξ,iv,o7]at h;grind
   case e x=>cases b<;>simp only[Pj,ν,bV,beq_iff_eq]at h;rw[h]
   case h i o=>
    cases b<;>simp only[PC,ν,ξ,cQ]at h;grind
   case o=>grind [CB]
   case f=>grind [xy]
   case k=>grind [w8]
   case m t v=>
    cases b<;>simp only[Ht,ν,ξ,cQ]at h;grind
   case g xs=>cases b<;>simp only[PL,ν]at h;rw[rq ih h]
   case d xs=>cases b<;>simp only[Hl,ν]at h;rw[rq ih h]
abbrev EU:=Tb (List (List AV×AV))
def vL:List (List AV×AV)->List AV->Option AV
 | [],_=>none
 | e::es,args=>bif yW (CU 8) e.1 args then some e.2 else vL es args
def Sv(b:Option (AV×aB))(o:aB):Option AV->Option (AV×aB)
 | some v=>some (v,o)
 | none=>b
def YZ(M:EU)(base:FuncId->bg->List AV->aB->Option (AV×aB))(f:FuncId)(C:bg)(args:List AV)(o:aB):Option (AV×aB):=Sv (base f C args o) o (ob (M.c0 f) λl=>vL l args)
def EN(cfg:cL)(M:EU):cL:=⟨cfg.G,cfg.b0,cfg.d0,YZ M cfg.c0,cfg.a0⟩
def gM(P:Program)(cfg:cL)(f:FuncId)(args:List AV)(v:AV):Prop:=∀C D m o w,dX cfg D m C o w->fM D m args->
 jV P f (aD m args).toArray w λV w'=>V=aj m v/\dh D m v/\dw cfg C D m o w D m o w'/\aa9 D w D m w'
def Tn(P:Program)(cfg:cL)(M:EU):Prop:=∀f l,M.c0 f=some l->∀e∈l,gM P cfg f e.1 e.2
structure nG(P:Program)(T:fm)(cfg:cL):Prop where
 d0:fH P T
 b0:P.follows .mixedOrders=true
 lv:qX cfg
 e0:jH P cfg True λC f args o=>cfg.c0 f C args o
 c0:b8 cfg λC f args o=>cfg.c0 f C args o
theorem zh:∀{l:List (List AV×AV)} {args:List AV} {v:AV},vL l args=some v->(args,v)∈l
 | [],args,v,h=>by cases h
 | e::es,args,v,h=>by
   rw[vL]at h;cases hb:yW (CU 8) e.1 args with
   | true=>
     grind [rq,Bl]
   | false=>rw[hb,cond_false]at h;exact List.mem_cons_of_mem _ (zh h)
theorem dX.to{cfg:cL}(hG:cfg'.G=cfg.G)(hr:cfg'.a0=cfg.a0){D:Nat->Prop}{m:Nat->bv}{o:aB}{w:World}(h:dX cfg D m C o w):dX cfg' D m C o w:=
 ⟨h.a0,h.inj,h.lt,by rw[hG];exact h.c0,by rw[hr];exact h.b0,by rw[hr];exact h.le,by rw[hr];exact h.lo,h.e0⟩
theorem dw.to{cfg:cL}(hG:cfg'.G=cfg.G)(hr:cfg'.a0=cfg.a0){D D':Nat->Prop}{m m':Nat->bv}{o o':aB}{w w':World}(h:dw cfg C D m o w D' m' o' w'):dw cfg' C D m o w D' m' o' w':=
 ⟨h.b0.to hG hr,h.g0,h.a0,h.l0,h.o0,h.os,h.j0,h.c0,h.i0,h.f0,h.m0,h.e0⟩
theorem nG.f0{cfg:cL}(g:nG P T cfg){M:EU}(hM:Tn P cfg M):nG P T (EN cfg M):=by
 refine⟨g.d0,g.b0,⟨g.lv.a0,g.lv.G,g.lv.b0⟩,λC f args o r h D m w hi hok=>?_,λC f args o r h hl=>?_⟩
 . have h':Sv (cfg.c0 f C args o) o (ob (M.c0 f) λl=>vL l args)=some r:=h;have hi':dX cfg D m C o w:=dX.to (cfg:=EN cfg M) (cfg':=cfg) rfl rfl hi;cases hx:(ob (M.c0 f) λl=>vL l args)with
   | some v=>
     rw[hx]at h';cases h';rw[ag]at hx;obtain⟨l,hl,hv⟩:=hx;exact(hM f l hl _ (zh hv) C D m o w hi' hok).a0 λV w' ⟨h1,h2,h3,h4⟩=>⟨D,m,h1,h2,dw.to (cfg:=cfg) (cfg':=EN cfg M) rfl rfl h3,λ_ _=>h4⟩
   | none=>
     rw[hx]at h';exact(g.e0 C f args o r h' D m w hi' hok).a0 λV w' ⟨D',m',h1,h2,h3,h4⟩=>⟨D',m',h1,h2,dw.to (cfg:=cfg) (cfg':=EN cfg M) rfl rfl h3,h4⟩
 . have h':Sv (cfg.c0 f C args o) o (ob (M.c0 f) λl=>vL l args)=some r:=h;cases hx:(ob (M.c0 f) λl=>vL l args)with
   | some v=>rw[hx]at h';cases h';exact .a0 hl
   | none=>rw[hx]at h';exact g.c0 C f args o r h' hl
def RD(v:AV):Option AV->Bool
 | some x=>CU 8 x v
 | none=>false
def PZ(T:fm)(cfg:cL)(n:Nat)(args:List AV)(fc:Func×Code):Option AV:=An T cfg (eZ T cfg n) fc.1 fc.2 args
def pR(T:fm)(cfg:cL)(n:Nat)(f:FuncId)(args:List AV)(v:AV):Bool:=bc cfg.a0.n args&&RD v (ob (aY T f) (PZ T cfg n args))
theorem nG.a0{cfg:cL}(g:nG P T cfg)(n:Nat){args:List AV}(h:pR T cfg n f args v):gM P cfg f args v:=by
 intro C D m o w hi hok;rw[pR,ξ]at h;obtain⟨hb,h⟩:=h;cases hx:ob (aY T f) (PZ T cfg n args)with
 | none=>rw[hx]at h;cases h
 | some x=>
   rw[hx]at h;have e:=Bl 8 x v h;subst e;rw[ag]at hx;obtain⟨⟨fn,c⟩,hbo,hc⟩:=hx;exact ac8 g.d0 g.lv (rv g.d0 g.b0 g.lv g.e0 g.c0 n).1 (px g.c0 n) hbo hb hc hi hok
theorem ee{cfg:cL}{args:List AV}{l:List (List AV×AV)}(h:gM P cfg f args v)(hl:∀e∈l,gM P cfg f e.1 e.2):∀e∈(args,v)::l,gM P cfg f e.1 e.2:=λe he=>by
 grind
theorem g_{cfg:cL}:∀e∈([]:List (List AV×AV)),gM P cfg f e.1 e.2:=λe he=>by grind
inductive Tr(R:Type) where
 | a0 (a:R)
 | c0
 | d0 (b:Bool) (k:Bool->Tr R)
 | f0 (i:Nat) (k:Nat->Tr R)
 | e0 (k:(Nat->Value)->Tr R)
def Tr.b0{R:Type}:Tr R->Option R
 | .a0 a=>some a
 | .c0=>none
 | .d0 b k=>(k b).b0
 | .f0 i k=>(k i).b0
 | .e0 _=>none
def Tr.i0{R S:Type}:Tr R->(R->Tr S)->Tr S
 | .a0 a,K=>K a
 | .c0,_=>.c0
 | .d0 b k,K=>.d0 b λd=>(k d).i0 K
 | .f0 i k,K=>.f0 i λd=>(k d).i0 K
 | .e0 _,_=>.c0
theorem Tr.g0{R S:Type}{K:R->Tr S}{s:S}:∀{t:Tr R},(t.i0 K).b0=some s->∃a,t.b0=some a/\(K a).b0=some s
 | .a0 a,h=>⟨a,rfl,h⟩
 | .c0,h=>by cases h
 | .d0 b k,h=>Tr.g0 (t:=k b) h
 | .f0 i k,h=>Tr.g0 (t:=k i) h
 | .e0 k,h=>by cases h
def Tr.wp{R:Type}(Q:R->Prop):Tr R->Prop
 | .a0 a=>Q a
 | .c0=>False
 | .d0 b k=>(k b).wp Q
 | .f0 i k=>(k i).wp Q
 | .e0 k=>∀J,(k J).wp Q
def Tr.l0{R S:Type}:Tr R->(R->Tr S)->Tr S
 | .a0 a,K=>K a
 | .c0,_=>.c0
 | .d0 b k,K=>.d0 b λd=>(k d).l0 K
 | .f0 i k,K=>.f0 i λd=>(k d).l0 K
 | .e0 k,K=>.e0 λJ=>(k J).l0 K
theorem Tr.j0{R S:Type}{K:R->Tr S}{Q:S->Prop}:∀{t:Tr R},(t.i0 K).wp Q->∃a,t.b0=some a/\(K a).wp Q
 | .a0 a,h=>⟨a,rfl,h⟩
 | .c0,h=>h.elim
 | .d0 b k,h=>Tr.j0 (t:=k b) h
 | .f0 i k,h=>Tr.j0 (t:=k i) h
 | .e0 k,h=>h.elim
theorem Tr.h0{R S:Type}{K:R->Tr S}{Q:S->Prop}:∀{t:Tr R},(t.l0 K).wp Q->t.wp λa=>(K a).wp Q
 | .a0 a,h=>h
 | .c0,h=>h
 | .d0 b k,h=>Tr.h0 (t:=k b) h
 | .f0 i k,h=>Tr.h0 (t:=k i) h
 | .e0 k,h=>λJ=>Tr.h0 (t:=k J) (h J)
theorem Tr.k0{R:Type}{Q Q':R->Prop}(hq:∀a,Q a->Q' a):∀{t:Tr R},t.wp Q->t.wp Q'
 | .a0 a,h=>hq a h
 | .c0,h=>h
 | .d0 b k,h=>Tr.k0 hq (t:=k b) h
 | .f0 i k,h=>Tr.k0 hq (t:=k i) h
 | .e0 k,h=>λJ=>Tr.k0 hq (t:=k J) (h J)
section
variable{R:Type}
def aT{α:Type}(x:Option α)(K:α->Tr R):Tr R:=match x with
 | some a=>K a
 | none=>.c0
def lu(b:Bool)(t:Tr R):Tr R:=.d0 b λd=>bif d then t else .c0
theorem ar{α:Type}{x:Option α}{K:α->Tr R}{s:R}(h:(aT x K).b0=some s):∃a,x=some a/\(K a).b0=some s:=by
 cases x with
 | none=>cases h
 | some a=>exact⟨a,rfl,h⟩
theorem bG{t:Tr R}{s:R}(h:(lu b t).b0=some s):b/\t.b0=some s:=by
 cases b with
 | true=>exact⟨rfl,h⟩
 | false=>cases h
theorem dk{t:Tr R}{s:R}(h:(bif b then t else Tr.c0).b0=some s):b/\t.b0=some s:=by
 cases b with
 | true=>grind
 | false=>cases h
def af(k:IntKind)(n:Int):Bool:=ab (eH k) n&&ab n (eE k)
def nA(k:IntKind)(n:Int)(K:AV->Tr R):Tr R:=.d0 (af k n) λb=>bif b then K (.a k n)else K (.a k (k.wrap n))
theorem qs{n:Int}{K:AV->Tr R}{s:R}(h:(nA k n K).b0=some s):∃v,iU k n=some v/\(K v).b0=some s:=by
 grind [nA,Tr.b0,iU,lk,DD,af]
def Ld(k:IntKind)(n:Nat)(K:AV->Tr R):Tr R:=lu (af k (.ofNat n)) (K (.a k (.ofNat n)))
theorem ach{K:AV->Tr R}{s:R}(h:(Ld k n K).b0=some s):∃v,iU k n=some v/\(K v).b0=some s:=by
 obtain⟨h1,h2⟩:=bG h;grind [af,iU,lk,DD]
abbrev E7(R:Type):Type:=IntKind->Int->Int->(AV->Tr R)->Tr R
def Ua:E7 R:=λk a b K=>nA k (Int.add a b) K
def W4:E7 R:=λk a b K=>nA k (Int.sub a b) K
def V7:E7 R:=λk a b K=>nA k (Int.mul a b) K
def Ur:E7 R:=λk a b K=>lu (!(aa b 0)) (nA k (Int.tdiv a b) K)
def Uf:E7 R:=λk a b K=>lu (!(aa b 0)) (K (.a k (Int.tmod a b)))
def oG(f:nV):E7 R:=λk a b K=>aT (f k a b) K
def B5:BinOp->E7 R
 | .add=>Ua
 | .sub=>W4
 | .mul=>V7
 | .quo=>Ur
 | .rem=>Uf
 | .and=>λk x y K=>Ld k (BitVec.ofInt k.bits x &&& BitVec.ofInt k.bits y).toNat K
 | .or=>λk x y K=>Ld k (BitVec.ofInt k.bits x ||| BitVec.ofInt k.bits y).toNat K
 | .xor=>λk x y K=>Ld k (BitVec.ofInt k.bits x ^^^ BitVec.ofInt k.bits y).toNat K
 | .andNot=>λk x y K=>Ld k (BitVec.ofInt k.bits x &&& ~~~BitVec.ofInt k.bits y).toNat K
 | .eql=>oG Tp
 | .neq=>oG QZ
 | .lss=>oG Qq
 | .leq=>oG Qr
 | .gtr=>oG QY
 | .geq=>oG Q_
 | .shl=>oG Ee
 | .shr=>oG Ee
theorem Ec{a b:Int}{K:AV->Tr R}{s:R}(h:(B5 op k a b K).b0=some s):∃v,Ck op k a b=some v/\(K v).b0=some s:=by
 have mk:∀{n:Int},(nA k n K).b0=some s->∃v,iU k n=some v/\(K v).b0=some s:=qs;cases op<;>simp only[B5,Ck]at h ⊢
 case add=>exact mk h
 case sub=>exact mk h
 case mul=>exact mk h
 case quo=>
  obtain⟨h1,h2⟩:=bG h;obtain⟨v,h3,h4⟩:=mk h2;exact⟨v,by rw[Q5,h1];exact h3,h4⟩
 case rem=>
  obtain⟨h1,h2⟩:=bG h;exact⟨_,by rw[Ti,h1,lk];rfl,h2⟩
 case and=>exact ach h
 case or=>exact ach h
 case xor=>exact ach h
 case andNot=>exact ach h
 all_goals exact ar h
def MP(op:BinOp)(k:IntKind)(a:Int)(y:AV)(K:AV->Tr R):Tr R:=match y with
 | .a k' b=>bif pI op then aT (Fw op k a b) K else bif zb k k' then B5 op k a b K else .c0
 | _=>.c0
theorem IA{a:Int}{K:AV->Tr R}{s:R}(h:(MP op k a y K).b0=some s):∃v,KF op k a y=some v/\(K v).b0=some s:=by
 cases y<;>simp only[MP]at h<;>first|(cases h;done)|skip
 simp only[KF];cases hs:pI op with
 | true=>simp_all [ar]
 | false=>
   rw[hs]at h;simp only[cond_false]at h ⊢;obtain⟨h1,h2⟩:=dk h;rw[h1];exact Ec h2
def KE(op:BinOp)(a:List UInt8)(y:AV)(K:AV->Tr R):Tr R:=match y with
 | .e b=>match op with
   | .add=>lu (Nat.ble (a.length+b.length) 1000000) (K (.e (a++b)))
   | op=>aT (Ra op (acg a b) (ae a b)) K
 | _=>.c0
theorem IQ{a:List UInt8}{K:AV->Tr R}{s:R}(h:(KE op a y K).b0=some s):∃v,Jg op a y=some v/\(K v).b0=some s:=by
 cases y<;>simp only[KE]at h<;>first|(cases h;done)|skip
 cases op<;>simp only[Jg]at h ⊢
 case add=>
  obtain⟨h1,h2⟩:=bG h;exact⟨_,by rw[h1];rfl,h2⟩
 all_goals exact ar h
end
section
variable(P:fm)
def o_(cmp:TypeId->AV->AV->Option Bool)(xs ys:List AV):List Field->Option Bool
 | []=>some true
 | f::fs=>ok (!(f.name == "_")) (ob (zc P f.type xs f.offset) λa=>ob (zc P f.type ys f.offset) λb=>ob (cmp f.type a b) λr=>ob (o_ cmp xs ys fs) λq=>some (r&&q))
def ry(cmp:AV->AV->Option Bool)(elem:TypeId)(n:Nat)(xs ys:List AV)(i:Nat):Nat->Option Bool
 | 0=>some true
 | k+1=>ob (zc P elem xs (i*n)) λa=>ob (zc P elem ys (i*n)) λb=>ob (cmp a b) λr=>ob (ry cmp elem n xs ys (i+1) k) λq=>some (r&&q)
def FW(cmp:TypeId->AV->AV->Option Bool)(t:TypeId)(xs ys:List AV):Option TypeDesc->Option Bool
 | some (.struct fields)=>ob (P.ty.c0 t) λe=>ok (!e.a0) (o_ P cmp xs ys fields.toList)
 | some (.array len elem)=>ob (gT P elem) λn=>ry P (cmp elem) elem n xs ys 0 len
 | _=>none
def Jo(cmp:TypeId->AV->AV->Option Bool)(t:TypeId)(xs:List AV):AV->Option Bool
 | .g ys=>FW P cmp t xs ys (P.a0 t)
 | _=>none
def ar2(cmp:TypeId->AV->AV->Option Bool)(t:TypeId)(x y:AV):Option Bool:=match x with
 | .b a=>Cb P t a y
 | .a k a=>FH P t k a y
 | .e a=>Ex P t a y
 | .g xs=>Jo P cmp t xs y
 | .m a u=>nZ P cmp t a u y
 | x=>DG (P.a0 t) x y
def sM:Nat->TypeId->AV->AV->Option Bool
 | 0,_,_,_=>none
 | d+1,t,x,y=>ar2 P (sM d) t x y
theorem W7{c c':TypeId->AV->AV->Option Bool}(hc:∀t a b r,c t a b=some r->c' t a b=some r){xs ys:List AV}:∀{fs:List Field} {r:Bool},o_ P c xs ys fs=some r->jd P c' xs ys fs=some r
 | [],r,h=>h
 | f::fs,r,h=>by
   simp only[o_,aA,ag,Option.some.injEq]at h;obtain⟨h0,a,ha,b,hb,q,hq,q',hq',rfl⟩:=h;have:=W7 hc hq';grind [jd,aA,ag]
theorem vV{c c':AV->AV->Option Bool}(hc:∀a b r,c a b=some r->c' a b=some r){elem:TypeId}{n:Nat}{xs ys:List AV}:∀{k i:Nat} {r:Bool},ry P c elem n xs ys i k=some r->kO P c' elem n xs ys i k=some r
 | 0,i,r,h=>h
 | k+1,i,r,h=>by
   simp only[ry,ag,Option.some.injEq]at h;obtain⟨a,ha,b,hb,q,hq,q',hq',rfl⟩:=h;have:=vV hc hq';grind [kO,ag]
theorem EL:∀{d:Nat} {t:TypeId} {x y:AV} {r:Bool},sM P d t x y=some r->N5 P d t x y=some r
 | 0,t,x,y,r,h=>by cases h
 | d+1,t,x,y,r,h=>by
   have ih:∀t a b r,sM P d t a b=some r->N5 P d t a b=some r:=λt a b r=>EL;unfold sM ar2 at h;unfold N5 MY;cases x<;>simp only at h ⊢<;>first|exact h|skip
   . rename_i a u;unfold nZ at h ⊢;cases y<;>simp only at h ⊢<;>first|exact h|skip
     grind [aA,ag]
   . unfold Jo at h;unfold EI;cases y<;>simp only[reduceCtorEq]at h ⊢;generalize P.a0 t=dd at h ⊢;unfold FW at h;grind [BV,ag,aA,W7,vV]
variable{R:Type}
def MS(op:BinOp)(t:TypeId)(xo yo:Operand)(x y:AV)(K:AV->Tr R):Tr R:=match x with
 | .a k a=>MP op k a y K
 | .e a=>KE op a y K
 | x=>aT (C3 op (ok (jK P t xo yo x y) (sM P 100 t x y))) K
theorem Ig{t:TypeId}{xo yo:Operand}{K:AV->Tr R}{s:R}(h:(MS P op t xo yo x y K).b0=some s):∃v,JC P op t xo yo x y=some v/\(K v).b0=some s:=by
 have other:∀{x:AV},(aT (C3 op (ok (jK P t xo yo x y) (sM P 100 t x y))) K).b0=some s->∃v,C3 op (ok (jK P t xo yo x y) (N5 P 100 t x y))=some v/\(K v).b0=some s:=λh=>by
  obtain⟨v,hv,hk⟩:=ar h;refine⟨v,?_,hk⟩;unfold C3 at hv ⊢;grind [ag,aA,EL]
 unfold MS at h;grind [JC,IA,IQ]
def Tg(op:UnOp)(x:AV)(K:AV->Tr R):Tr R:=match x with
 | .a k n=>match op with
   | .neg=>nA k (Int.sub 0 n) K
   | op=>aT (UC op (.a k n)) K
 | .b b=>match op with
   | .not=>K (.b !b)
   | _=>.c0
 | _=>.c0
theorem Js{op:UnOp}{K:AV->Tr R}{s:R}(h:(Tg op x K).b0=some s):∃v,UC op x=some v/\(K v).b0=some s:=by
 unfold Tg at h;cases x<;>simp only at h<;>first|(cases h;done)|skip
 . cases op<;>simp only at h<;>first|(cases h;done)|exact⟨_,rfl,h⟩
 . cases op<;>simp only at h<;>first|exact ar h|skip
   exact qs h
def Jm(a b:Option AV)(c:AV)(K:AV->Tr R):Tr R:=match c with
 | .b d=>.d0 d λe=>aT (bif e then a else b) K
 | _=>.c0
theorem HI{a b:Option AV}{c:AV}{K:AV->Tr R}{s:R}(h:(Jm a b c K).b0=some s):∃v,Gd a b c=some v/\(K v).b0=some s:=by
 unfold Jm at h;cases c<;>simp only at h<;>first|(cases h;done)|skip
 rename_i d;simp only[Tr.b0]at h;cases d<;>exact ar h
def eB(k:IntKind):AV->Bool
 | .a k' _=>zb k' k
 | _=>false
def dx:AV->Int
 | .a _ n=>n
 | _=>0
def Sn:AV->Bool
 | .b _=>true
 | _=>false
def KK:AV->Bool
 | .b b=>b
 | _=>false
def Iq:AV->Bool
 | .e _=>true
 | _=>false
def C9:AV->List UInt8
 | .e s=>s
 | _=>[]
theorem IC(h:eB k v):v=.a k (dx v):=by
 cases v<;>simp only[eB,ν]at h;rw[iv]at h;rw[h];rfl
theorem Ia(h:Sn v):v=.b (KK v):=by cases v<;>simp only[Sn,ν]at h;rfl
theorem H8(h:Iq v):v=.e (C9 v):=by cases v<;>simp only[Iq,ν]at h;rfl
theorem getD_some{cs:List AV}{i:Nat}(h:cs.getD i bt=v)(hv:v≠bt):cs[i]? = some v:=by
 grind
def GR(z:AV)(cs:List AV)(off:Nat)(K:AV->Tr R):Tr R:=match z with
 | .a k _=>lu (eB k (cs.getD off bt)) (K (.a k (dx (cs.getD off bt))))
 | .b _=>lu (Sn (cs.getD off bt)) (K (.b (KK (cs.getD off bt))))
 | .e _=>lu (Iq (cs.getD off bt)) (K (.e (C9 (cs.getD off bt))))
 | _=>.f0 off λj=>aT cs[j]? K
theorem AG{z:AV}{cs:List AV}{K:AV->Tr R}{s:R}(h:(GR z cs off K).b0=some s):∃v,cs[off]? = some v/\(K v).b0=some s:=by
 have other:(Tr.f0 off λj=>aT cs[j]? K).b0=some s->∃v,cs[off]? = some v/\(K v).b0=some s:=λh=>ar h;unfold GR at h;grind [bG,Ia,bt,IC,H8]
def FS(cs:List AV):List AV->Nat->(List AV->Tr R)->Tr R
 | [],_,K=>K []
 | z::zs,off,K=>GR z cs off λv=>FS cs zs (off+1) λvs=>K (v::vs)
theorem xZ{cs:List AV}:∀{zs:List AV} {off:Nat} {K:List AV->Tr R} {s:R},(FS cs zs off K).b0=some s->∃vs,vs.length=zs.length/\(∀i,i<zs.length->cs[off+i]? = vs[i]?)/\(K vs).b0=some s
 | [],off,K,s,h=>⟨[],rfl,λi hi=>absurd hi (Nat.not_lt_zero i),h⟩
 | z::zs,off,K,s,h=>by
   obtain⟨v,hv,h⟩:=AG h;obtain⟨vs,h1,h2,h⟩:=xZ h;grind
theorem Jt{cs vs:List AV}(h1:vs.length=n)(h2:∀i,i<n->cs[off+i]? = vs[i]?):jW cs off n=some vs:=by
 have e:(cs.drop off).take n=vs:=by
  apply List.ext_getElem?;grind
 rw[jW,e,rY h1];rfl
def L7(t:TypeId)(cs:List AV)(off:Nat)(K:AV->Tr R):Tr R:=
 aT (P.a0 t) λd=>bif xN (some d)then aT (gT P t) λn=>aT (lA P t) λz=>bif ο (bU z).length n then FS cs (bU z) off λvs=>K (.g vs)else .c0
  else aT (lA P t) λz=>GR z cs off K
theorem AR{t:TypeId}{cs:List AV}{K:AV->Tr R}{s:R}(h:(L7 P t cs off K).b0=some s):∃v,zc P t cs off=some v/\(K v).b0=some s:=by
 obtain⟨d,hd,h⟩:=ar h;unfold zc;simp only[hd,ob];cases ha:xN (some d)with
 | true=>
   rw[ha,cond_true]at h;rw[cond_true];obtain⟨n,hn,h⟩:=ar h;obtain⟨z,hz,h⟩:=ar h;obtain⟨hl,h⟩:=dk h;rw[cQ]at hl;obtain⟨vs,h1,h2,h⟩:=xZ h;exact⟨_,by simp only[hn,Jt (h1.trans hl) λi hi=>h2 i δ],h⟩
 | false=>
   rw[ha,cond_false]at h;rw[cond_false];obtain⟨z,hz,h⟩:=ar h;exact AG h
def KP(i:AV)(K:Nat->Tr R):Tr R:=match i with
 | .a _ n=>lu (ab 0 n) (K n.toNat)
 | _=>.c0
theorem yp{i:AV}{K:Nat->Tr R}{s:R}(h:(KP i K).b0=some s):∃n,HG i=some n/\(K n).b0=some s:=by
 unfold KP at h;cases i<;>simp only at h<;>first|(cases h;done)|skip
 rename_i k n;obtain⟨h1,h2⟩:=bG h;have hn:0<=n:=by grind [q5]
 refine⟨_,?_,h2⟩;obtain⟨j,rfl⟩:∃j:Nat,n=Int.ofNat j:=⟨n.toNat,(Int.toNat_of_nonneg hn).symm⟩;rfl
def JG(hi:Nat)(v:AV)(K:Nat->Tr R):Tr R:=KP v λn=>lu (Nat.ble n hi) (K n)
theorem abZ{hi:Nat}{K:Nat->Tr R}{s:R}(h:(JG hi v K).b0=some s):∃n,zR hi v=some n/\(K n).b0=some s:=by
 obtain⟨n,h1,h⟩:=yp h;obtain⟨h2,h⟩:=bG h;refine⟨n,?_,h⟩;unfold HG at h1;split at h1<;>grind [zR,ok]
def i_(most dflt:Nat)(v:Option AV)(K:Nat->Tr R):Tr R:=match v with
 | none=>K dflt
 | some v=>JG most v K
theorem kS{most dflt:Nat}{v:Option AV}{K:Nat->Tr R}{s:R}(h:(i_ most dflt v K).b0=some s):∃n,kq most dflt v=some n/\(K n).b0=some s:=by
 cases v with
 | none=>exact⟨dflt,rfl,h⟩
 | some v=>exact abZ h
def BF{α:Type}(b:Bool)(x y:α)(K:α->Tr R):Tr R:=.d0 b λd=>bif d then K x else K y
theorem oF{α:Type}{x y:α}{K:α->Tr R}{s:R}(h:(BF b x y K).b0=some s):(K (bif b then x else y)).b0=some s:=by
 cases b<;>exact h
def A6(id off size m h l:Nat)(K:AV->Tr R):Tr R:=BF (ο m l) (AV.c id off (h-l) (.a (m-l))) (.c id (off+l*size) (h-l) (.a (m-l))) K
def Ib(s:List UInt8)(lo hi:Option AV)(K:AV->Tr R):Tr R:=i_ s.length s.length hi λh=>i_ h 0 lo λl=>K (.e ((s.take h).drop l))
def abd(size id off len c:Nat)(lo hi max:Option AV)(K:AV->Tr R):Tr R:=
 bif max.isNone || hi.isSome then i_ c c max λm=>i_ m len hi λh=>i_ h 0 lo λl=>A6 id off size m h l K else .c0
theorem nO{len c:Nat}{lo hi max:Option AV}{K:AV->Tr R}{s:R}(h:(abd size id off len c lo hi max K).b0=some s):∃v,jh size id off len c lo hi max=some v/\(K v).b0=some s:=by
 obtain⟨h0,h⟩:=dk h;obtain⟨m,hm,h⟩:=kS h;obtain⟨h',hh,h⟩:=kS h;obtain⟨l,hl,h⟩:=kS h;exact⟨_,by grind [jh,ok,ob,jn],oF h⟩
def qR(size id off k h l:Nat)(K:AV->Tr R):Tr R:=.d0 (ο l 0) λb=>bif b then K (.c id off h (.b k))else lu (aS l h) (K (.c id (off+l*size) (h-l) (.b (k+l))))
theorem y5{k h' l:Nat}{K:AV->Tr R}{s:R}(h:(qR size id off k h' l K).b0=some s):∃v,ph size id off k h' l=some v/\(K v).b0=some s:=by
 grind [qR,ph,Tr.b0,bG,ok]
def Ar(size id off len:Nat)(lo hi max:Option AV)(c:fg)(K:AV->Tr R):Tr R:=match c with
 | .a c=>abd size id off len c lo hi max K
 | .b k=>match max with
   | none=>i_ len len hi λh=>i_ h 0 lo λl=>qR size id off k h l K
   | some mx=>bif hi.isSome then JG len mx λm=>i_ m len hi λh=>i_ h 0 lo λl=>A6 id off size m h l K else .c0
def xa(t:TypeId)(lo hi mx:Option AV)(v:AV)(K:AV->Tr R):Tr R:=match v with
 | .h id off=>aT (Ds P t) λne=>aT (gT P ne.2) λsize=>abd size id off ne.1 ne.1 lo hi mx K
 | .e s=>bif zO P t&&mx.isNone then Ib s lo hi K else .c0
 | .f=>aT (kr P t) λe=>aT (gT P e) λ_=>bif mx.isNone || hi.isSome then i_ 0 0 mx λ_=>i_ 0 0 hi λ_=>i_ 0 0 lo λ_=>K .f else .c0
 | .c id off len c=>aT (kr P t) λe=>aT (gT P e) λsize=>Ar size id off len lo hi mx c K
 | _=>.c0
theorem B4{t:TypeId}{lo hi mx:Option AV}{K:AV->Tr R}{s:R}(h:(xa P t lo hi mx v K).b0=some s):∃r,sw P t lo hi mx v=some r/\(K r).b0=some s:=by
 unfold xa at h;unfold sw;cases v<;>simp only at h<;>first|(cases h;done)|skip
 case h id off=>
  obtain⟨ne,h1,h⟩:=ar h;obtain⟨size,h2,h⟩:=ar h;grind [nO,ob]
 case e s=>
  obtain⟨h1,h⟩:=dk h;obtain⟨a,ha,h⟩:=kS h;grind [kS,ok,xI,ob]
 case f=>
  obtain⟨e,h1,h⟩:=ar h;obtain⟨sz,h2,h⟩:=ar h;obtain⟨h3,h⟩:=dk h;obtain⟨a,ha,h⟩:=kS h;obtain⟨b,hb,h⟩:=kS h;grind [kS,ob,xV,ok]
 case c id off len c=>
  obtain⟨e,h1,h⟩:=ar h;obtain⟨size,h2,h⟩:=ar h;simp only[h1,ob,h2];unfold Ar at h;unfold og;cases c with
  | a c=>exact nO h
  | b k=>
    cases mx with
    | none=>
      grind [kS,y5,vu,ob]
    | some mx=>
      obtain⟨h3,h⟩:=dk h;obtain⟨a,ha,h⟩:=abZ h;obtain⟨b,hb,h⟩:=kS h;obtain⟨c,hc,h⟩:=kS h;exact⟨_,by grind [nq,ok,ob,jn],oF h⟩
def F8:List AV->List AV->List AV
 | cs,[]=>cs
 | [],_::_=>[]
 | _::cs,v::vs=>v::F8 cs vs
def JL:List AV->Nat->List AV->List AV
 | cs,0,vs=>F8 cs vs
 | [],_+1,_=>[]
 | c::cs,n+1,vs=>c::JL cs n vs
theorem DQ:∀{cs vs:List AV},vs.length<=cs.length->qh cs vs=some (F8 cs vs)
 | cs,[],_=>by cases cs<;>rfl
 | [],v::vs,h=>by grind
 | c::cs,v::vs,h=>by simp only[qh,DQ (cs:=cs) (vs:=vs) η,ob,F8]
theorem Hv:∀{cs:List AV} {n:Nat} {vs:List AV},n+vs.length<=cs.length->adi cs n vs=some (JL cs n vs)
 | cs,0,vs,h=>by grind [adi.eq_def,JL.eq_def,DQ]
 | [],n+1,vs,h=>by grind
 | c::cs,n+1,vs,h=>by simp only[adi,Hv (cs:=cs) (n:=n) (vs:=vs) η,ob,JL]
def NF(off:Nat)(vs:List AV)(x:cD)(K:cD->Tr R):Tr R:=match x with
 | .a cs true g=>lu (Nat.ble (off+vs.length) cs.length) (K (.a (JL cs off vs) true g))
 | _=>.c0
theorem Dh{vs:List AV}{x:cD}{K:cD->Tr R}{s:R}(h:(NF off vs x K).b0=some s):∃y,yr off vs x=some y/\(K y).b0=some s:=by
 unfold NF at h;split at h
 . grind [bG,eK,yr,Hv,ob]
 . cases h
def GC(cs:List AV)(off n:Nat)(K:List AV->Tr R):Tr R:=lu (Nat.ble (off+n) cs.length) (K ((cs.drop off).take n))
theorem ti{cs:List AV}{K:List AV->Tr R}{s:R}(h:(GC cs off n K).b0=some s):∃vs,jW cs off n=some vs/\(K vs).b0=some s:=by
 obtain⟨h1,h⟩:=bG h;rw[eK]at h1;exact⟨_,by rw[jW,rY η];rfl,h⟩
def Sw:AV->Bool
 | .a .u8 n=>ab 0 n&&ab n 255
 | _=>false
def M8(v:AV):UInt8:=UInt8.ofNat (dx v).toNat
theorem Is(h:Sw v):ya v=some (M8 v):=by
 unfold Sw at h;grind [q5,ya,aU,ok,M8,dx]
def F4:List AV->Bool
 | []=>true
 | v::vs=>Sw v&&F4 vs
theorem xn:∀{vs:List AV},F4 vs->Uo vs=some (vs.map M8)
 | [],_=>rfl
 | v::vs,h=>by
   rw[F4,ξ]at h;simp only[Uo,Is h.1,ob,xn h.2,List.map_cons]
end
abbrev sL(R:Type):Type:=fm->bg->(Operand->Option AV)->aB->(AV×aB->Tr R)->Tr R
section
variable{R:Type}
def Sy(op:BinOp)(t:TypeId)(x y:Operand):sL R:=λP C ρ o K=>aT (ρ x) λa=>aT (ρ y) λb=>MS P op t x y a b λv=>K (v,o)
def UT(op:UnOp)(x:Operand):sL R:=λP C ρ o K=>aT (ρ x) λa=>Tg op a λv=>K (v,o)
def N6(c a b:Operand):sL R:=λP C ρ o K=>aT (ρ c) λcv=>Jm (ρ a) (ρ b) cv λv=>K (v,o)
def P7(P:fm)(C:bg)(o:aB)(src dst:TypeId)(v:AV)(K:AV×aB->Tr R):Tr R:=match v with
 | .a _ n=>bif (P.a0 src).isSome then(match P.a0 dst with
   | some (.int k)=>nA k n λv=>K (v,o)
   | d=>aT (gS o (w7 n d)) K)else .c0
 | .e s=>bif zF (P.a0 src)then(match P.a0 dst with
   | some .string=>K (.e s,o)
   | some (.slice e)=>lu (mT (P.a0 e)&&Nat.ble s.length 1000000) (K (.c (o.b0 C) 0 s.length (.b 0),o.a0 (.a (s.map jx) false none)))
   | _=>.c0)else .c0
 | .c id off len _=>aT (Di (P.a0 src)) λe=>bif mT (P.a0 e)&&zF (P.a0 dst)then aT (cellsOf (get C o id)) λcs=>GC cs off len λbs=>lu (F4 bs) (K (.e (bs.map M8),o))else .c0
 | v=>aT (jA P C o src dst v) K
def Fb(src dst:TypeId)(x:Operand):sL R:=λP C ρ o K=>aT (ρ x) λv=>P7 P C o src dst v K
def Gj(P:fm)(t:TypeId)(n:Nat)(v:AV)(K:AV->Tr R):Tr R:=match v with
 | .g cs=>aT (Ds P t) λne=>lu (aS n ne.1) (aT (gT P ne.2) λsz=>L7 P ne.2 cs (n*sz) K)
 | .e s=>bif zO P t then lu (aS n s.length) (K (jx (s.getD n 0)))else .c0
 | _=>.c0
def KV(t:TypeId)(x ix:Operand):sL R:=λP C ρ o K=>aT (ρ x) λv=>aT (ρ ix) λi=>KP i λn=>Gj P t n v λr=>K (r,o)
def vD(P:fm)(t:TypeId)(n:Nat)(v:AV)(K:AV->Tr R):Tr R:=match v with
 | .h id off=>aT (Ds P t) λne=>lu (aS n ne.1) (aT (gT P ne.2) λsz=>K (.h id (off+n*sz)))
 | .c id off len _=>aT (kr P t) λe=>lu (aS n len) (aT (gT P e) λsz=>K (.h id (off+n*sz)))
 | _=>.c0
def BS(t:TypeId)(x ix:Operand):sL R:=λP C ρ o K=>aT (ρ x) λv=>aT (ρ ix) λi=>KP i λn=>vD P t n v λr=>K (r,o)
def I_(t:TypeId)(x:Operand)(lo hi mx:Option Operand):sL R:=λP C ρ o K=>
 aT (ρ x) λv=>aT (adk ρ lo) λl=>aT (adk ρ hi) λh=>aT (adk ρ mx) λm=>xa P t l h m v λr=>K (r,o)
def Bs(t:TypeId)(l c:Operand):sL R:=λP C ρ o K=>aT (ρ l) λlv=>aT (ρ c) λcv=>
 aT (kr P t) λelem=>aT (gT P elem) λn=>aT (lA P elem) λz=>JG 10000 cv λcn=>JG cn lv λln=>
  bif ο (bU z).length n&&aS 0 n&&Nat.ble n 10000&&s_ P elem&&dM (bU z)then K (.c (o.b0 C) 0 ln (.a cn),o.a0 (.a (mX (bU z) cn) true none))else .c0
def Od(t:TypeId)(a:Operand):sL R:=λP C ρ o K=>aT (ρ a) λp=>match p with
 | .h id off=>aT (cellsOf (get C o id)) λcs=>L7 P t cs off λv=>K (v,o)
 | _=>.c0
def J8(t:TypeId)(a x:Operand):sL R:=λP C ρ o K=>aT (ρ a) λp=>aT (ρ x) λv=>match p with
 | .h id off=>aT (gT P t) λn=>bif ο (bU v).length n&&dM (bU v)then aT (dQ C o id) λx=>NF off (bU v) x λx'=>K (bt,kV C o id x')else .c0
 | _=>.c0
def aet(C:bg)(o:aB)(id:Nat)(x:cD)(K:AV×aB->Tr R):Tr R:=match x with
 | .d s pos=>.d0 (aS pos s.length) λb=>bif b then K (.d [.b true,.a .i64 (.ofNat pos),.a .i32 (.ofNat (Utf8.decode ⟨⟨s⟩⟩ pos).1)],kV C o id (.d s (pos+(Utf8.decode ⟨⟨s⟩⟩ pos).2)))else K (.d [.b false],o)
 | _=>.c0
def Nc(it:Operand)(st:Bool):sL R:=λP C ρ o K=>bif st then aT (ρ it) λv=>match v with
 | .h id off=>bif ο off 0 then aT (dQ C o id) λx=>aet C o id x K else .c0
 | _=>.c0
 else .c0
def KZ(k:AV):List (AV×AV)->(Option AV->Tr R)->Tr R
 | [],K=>K none
 | e::es,K=>aT (yU k e.1) λr=>.d0 r λb=>bif b then K (some e.2)else KZ k es K
def IK(t:TypeId)(x ix:Operand)(okv:Bool):sL R:=λP C ρ o K=>aT (ρ x) λm=>aT (ρ ix) λk=>aT (H3 (P.a0 t)) λke=>bif sG k (P.a0 ke.1)then(match m with
 | .q id=>aT (lX (get C o id)) λes=>KZ k es λr=>match r with
   | some v=>K (py okv v true,o)
   | none=>aT (lA P ke.2) λz=>K (py okv z false,o)
 | _=>.c0)else .c0
def GD(op:Op):sL R:=λP C ρ o K=>aT (gW op P C ρ o) K
def Fu:Op->sL R
 | .pick c a b=>N6 c a b
 | .binOp op t x y _=>Sy op t x y
 | .unOp op _ x=>UT op x
 | .convert src dst x=>Fb src dst x
 | .makeSlice t l c=>Bs t l c
 | .slice t x lo hi mx=>I_ t x lo hi mx
 | .indexAddr t x ix=>BS t x ix
 | .index t x ix=>KV t x ix
 | .load t a=>Od t a
 | .store t a x=>J8 t a x
 | .next it s=>Nc it s
 | .lookup t x ix okv=>IK t x ix okv
 | op=>GD op
theorem jl{o:aB}{x:Option AV}(h:x=some v):gS o x=some (v,o):=by rw[h];rfl
theorem AM{k:AV}:∀{es:List (AV×AV)} {K:Option AV->Tr R} {s:R},(KZ k es K).b0=some s->∃r,qq k es=some r/\(K r).b0=some s
 | [],K,s,h=>⟨none,rfl,h⟩
 | e::es,K,s,h=>by
   obtain⟨r,hr,h⟩:=ar h;simp only[Tr.b0]at h;simp only[qq,hr,ob];cases r with
   | true=>grind
   | false=>exact AM h
theorem N4{op:Op}{P:fm}{ρ:Operand->Option AV}{o:aB}{K:AV×aB->Tr R}{s:R}(h:(Fu op P C ρ o K).b0=some s):∃r,Eo P C ρ o op=some r/\(K r).b0=some s:=by
 unfold Eo;cases op<;>simp only[Fu,GD]at h<;>first|exact ar h|skip
 case pick c a b=>
  obtain⟨cv,hc,h⟩:=ar h;obtain⟨v,hv,h⟩:=HI h;simp_all [gW,xT,jl,ag]
 case binOp op t x y e=>
  obtain⟨a,ha,h⟩:=ar h;obtain⟨b,hb,h⟩:=ar h;obtain⟨v,hv,h⟩:=Ig P h;simp_all [gW,DX,jl,ag]
 case unOp op t x=>
  obtain⟨a,ha,h⟩:=ar h;obtain⟨v,hv,h⟩:=Js h;simp_all [gW,Kp,jl,ag]
 case convert src dst x=>
  obtain⟨v,hv,h⟩:=ar h;simp only[gW,ip,hv,ob];unfold P7 at h;cases v<;>simp only at h<;>first|exact ar h|skip
  case a k n=>
   obtain⟨h1,h⟩:=dk h;simp only[jA,h1];split at h
   . rename_i k hk;rw[hk];obtain⟨v,h2,h3⟩:=qs h;exact⟨_,by simp only[ok,cond_true];exact jl h2,h3⟩
   simp_all [ar,ok]
  case e str=>
   obtain⟨h1,h⟩:=dk h;simp only[jA,h1,ok,cond_true];split at h
   . rename_i hk;rw[hk];exact⟨_,rfl,h⟩
   . grind [bG,o8,ok]
   . cases h
  case c id off len c=>
   obtain⟨e,he,h⟩:=ar h;obtain⟨h1,h⟩:=dk h;obtain⟨cs,hc,h⟩:=ar h;obtain⟨bs,hb,h⟩:=ti h;obtain⟨h2,h⟩:=bG h;simp_all [jA,po,ob,ok,mA,xn,gS]
 case makeSlice t l c=>
  obtain⟨lv,hl,h⟩:=ar h;obtain⟨cv,hc,h⟩:=ar h;obtain⟨e,he,h⟩:=ar h;obtain⟨n,hn,h⟩:=ar h;obtain⟨z,hz,h⟩:=ar h;obtain⟨cn,h1,h⟩:=abZ h;obtain⟨ln,h2,h⟩:=abZ h;obtain⟨h3,h⟩:=dk h;exact⟨_,by simp only[gW,ik,hl,hc,ob,na,he,hn,hz,h1,h2,h3,ok,cond_true],h⟩
 case slice t x lo hi mx=>
  obtain⟨v,hv,h⟩:=ar h;obtain⟨l,hl,h⟩:=ar h;obtain⟨hh,hhe,h⟩:=ar h;obtain⟨m,hm,h⟩:=ar h;obtain⟨r,hr,h⟩:=B4 P h;simp_all [gW,sg,ob,jl]
 case indexAddr t x ix=>
  obtain⟨v,hv,h⟩:=ar h;obtain⟨i,hi,h⟩:=ar h;obtain⟨n,hn,h⟩:=yp h;simp only[gW,jq,hv,hi,ob,hn];unfold vD at h;cases v<;>simp only at h<;>first|(cases h;done)|skip
  . obtain⟨ne,h1,h⟩:=ar h;obtain⟨h2,h⟩:=bG h;obtain⟨sz,h3,h⟩:=ar h;grind [jl,aau,ob,ok]
  . obtain⟨ne,h1,h⟩:=ar h;obtain⟨h2,h⟩:=bG h;obtain⟨sz,h3,h⟩:=ar h;grind [jl,aau,ob,ok]
 case index t x ix=>
  obtain⟨v,hv,h⟩:=ar h;obtain⟨i,hi,h⟩:=ar h;obtain⟨n,hn,h⟩:=yp h;simp only[gW,rz,hv,hi,ob,hn];unfold Gj at h;cases v<;>simp only at h<;>first|(cases h;done)|skip
  . rename_i str;obtain⟨h1,h⟩:=dk h;obtain⟨h2,h⟩:=bG h;rw[aU]at h2;refine⟨_,jl ?_,h⟩;simp only[yk,h1,ok,cond_true];rw[List.getD_eq_getElem?_getD,List.getElem?_eq_getElem h2];rfl
  . obtain⟨ne,h1,h⟩:=ar h;obtain⟨h2,h⟩:=bG h;obtain⟨sz,h3,h⟩:=ar h;obtain⟨r,h4,h⟩:=AR P h;exact⟨_,jl (by simp only[yk,h1,ob,h2,ok,cond_true,h3,h4]),h⟩
 case load t a=>
  obtain⟨p,hp,h⟩:=ar h;cases p<;>simp only at h<;>first|(cases h;done)|skip
  obtain⟨cs,hc,h⟩:=ar h;obtain⟨v,hv,h⟩:=AR P h;exact⟨_,by simp only[gW,tN,hp,ob,ab2,hc];exact jl hv,h⟩
 case store t a x=>
  obtain⟨p,hp,h⟩:=ar h;obtain⟨v,hv,h⟩:=ar h;cases p<;>simp only at h<;>first|(cases h;done)|skip
  obtain⟨n,hn,h⟩:=ar h;obtain⟨h1,h⟩:=dk h;obtain⟨y,hy,h⟩:=ar h;obtain⟨z,hz,h⟩:=Dh h;exact⟨_,by simp only[gW,oY,hp,hv,ob,yO,hn,h1,ok,cond_true,jO,hy,hz],h⟩
 case next it st=>
  obtain⟨h1,h⟩:=dk h;obtain⟨v,hv,h⟩:=ar h;cases v<;>simp only at h<;>first|(cases h;done)|skip
  obtain⟨h2,h⟩:=dk h;rw[cQ]at h2;subst h2;obtain⟨x,hx,h⟩:=ar h;unfold aet at h;split at h
  . rename_i str pos;simp only[Tr.b0]at h;have hd:∀n,H0 .i32 .ofNat n=.a .i32 (.ofNat n):=λn=>by cases n<;>rfl
    have hg:goInt pos=.a .i64 (.ofNat pos):=by cases pos<;>rfl
    cases hb:aS pos str.length with
    | true=>
      rw[hb,cond_true]at h;exact⟨_,by simp only[gW,qS,h1,ok,cond_true,hv,ob,DN,hx,ace,Dl,hb,hd,hg],h⟩
    | false=>
      rw[hb,cond_false]at h;exact⟨_,by simp only[gW,qS,h1,ok,cond_true,hv,ob,DN,hx,ace,Dl,hb,cond_false],h⟩
  . cases h
 case lookup t x ix okv=>
  obtain⟨mv,hm,h⟩:=ar h;obtain⟨k,hk,h⟩:=ar h;obtain⟨ke,hke,h⟩:=ar h;obtain⟨h1,h⟩:=dk h;cases mv<;>simp only at h<;>first|(cases h;done)|skip
  obtain⟨es,he,h⟩:=ar h;obtain⟨r,hr,h⟩:=AM h;simp only[gW,oe,hm,hk,ob,C_,hke,h1,ok,cond_true,Xf,he,hr];cases r with
  | some v=>exact⟨_,rfl,h⟩
  | none=>
    obtain⟨z,hz,h⟩:=ar h;exact⟨_,by simp only[hz,gS,ob],h⟩
end
end Go.Ev
