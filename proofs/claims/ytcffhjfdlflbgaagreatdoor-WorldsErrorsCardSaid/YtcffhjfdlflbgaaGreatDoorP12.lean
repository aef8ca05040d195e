import Derived.Test.YtcffhjfdlflbgaaGreatDoorP11
set_option linter.all false
open Nat renaming beq->ν,ble->ξ
set_option linter.all false
set_option maxRecDepth 100000
set_option maxHeartbeats 4000000
namespace Go.Ev
open Go
variable{x v:AV}{size n b:Nat}{args:List AV}{st:St}{C:bg}{P:Program}{f:FuncId}{T:fm}{a:Bool}
abbrev zy:Type:=FuncId->bg->List AV->aB->Option (Tr (AV×aB))
structure Bt(cfg:cL)(orcT:zy):Prop where
 a0:∀{f C args o t},orcT f C args o=some t->∀{r},t.b0=some r->cfg.c0 f C args o=some r
 b0:∀{f C args o},orcT f C args o=none->cfg.c0 f C args o=none
section
variable{R:Type}
abbrev CI(R:Type):Type:=bg->FuncId->List AV->aB->(AV×aB->Tr R)->Tr R
abbrev ag6(R:Type):Type:=bg->Nat->List AV->aB->(AV×aB->Tr R)->Tr R
def ag8:ag6 R:=λ_ _ _ _ _=>.c0
abbrev ol(R:Type):Type:=bg->Code->St->(AX×St->Tr R)->Tr R
section
variable(P:fm)(cfg:cL)(call:CI R)(C:bg)
def J0(x:AV)(d:Option TypeDesc)(K:AV->Tr R):Tr R:=match d with
 | some .string=>(match x with
   | .e s=>K (.a .i64 (.ofNat s.length))
   | _=>.c0)
 | some (.slice _)=>(match x with
   | .c _ _ n _=>K (.a .i64 (.ofNat n))
   | .f=>K (.a .i64 0)
   | _=>.c0)
 | some (.array n _)=>K (.a .i64 (.ofNat n))
 | _=>.c0
def JQ(x:AV)(d:Option TypeDesc)(K:AV->Tr R):Tr R:=match d with
 | some (.slice _)=>(match x with
   | .c _ _ _ (.a n)=>K (.a .i64 (.ofNat n))
   | .f=>K (.a .i64 0)
   | _=>.c0)
 | _=>.c0
def Bh(o:aB)(size n:Nat)(x:AV)(K:List AV->Tr R):Tr R:=match x with
 | .c id off len _=>lu (ξ n len) (aT (cellsOf (get C o id)) λcs=>GC cs off (n*size) K)
 | .f=>lu (ν n 0) (K [])
 | .e s=>lu (ξ n s.length) (K ((s.take n).map jx))
 | _=>.c0
def FL(o:aB)(id off:Nat)(vs:List AV)(K:aB->Tr R):Tr R:=aT (dQ C o id) λx=>NF off vs x λx'=>K (kV C o id x')
def s8(o:aB)(size n:Nat)(new:List AV)(s:AV)(K:AV×aB->Tr R):Tr R:=match s with
 | .f=>K (VK C o size n new)
 | .c id off len c=>(match c with
   | .a c=>.d0 (ξ (len+n) c) λb=>bif b then FL C o id (off+len*size) new λo'=>K (.c id off (len+n) (.a c),o')
     else aT (cellsOf (get C o id)) λcs=>GC cs off (len*size) λold=>K (VK C o size (len+n) (old++new))
   | .b k=>lu (ν off 0&&ν k 0) (aT (dQ C o id) λx=>(match x with
     | .a cs true (some g)=>lu (ν g size&&ν cs.length (len*size)) (K (VK C (kV C o id .b) size (len+n) (cs++new)))
     | _=>.c0)))
 | _=>.c0
def GJ(o:aB)(sType xType:TypeId)(s x:AV)(K:AV×aB->Tr R):Tr R:=
 aT (kr P sType) λelem=>bif o6 P xType&&s_ P elem&&lW s then aT (gT P elem) λsize=>aT (lA P elem) λz=>aT (pU x) λn=>aT (pU s) λsl=>
  .d0 (ν n 0) λb=>bif b then lu (PI s) (K (s,o))else lu (I9 sl n size) (bif ν (bU z).length size&&B3 size x then Bh C o size n x λnew=>lu (dM new) (s8 C o size n new s K)else .c0)
 else .c0
def Ha(o:aB)(n:Nat)(cs:List AV)(d:AV)(K:AV×aB->Tr R):Tr R:=match d with
 | .f=>K (.a .i64 (.ofNat n),o)
 | .c id off _ _=>lu (dM cs) (FL C o id off cs λo'=>K (.a .i64 (.ofNat n),o'))
 | _=>.c0
def PR(o:aB)(dType:TypeId)(d s:AV)(K:AV×aB->Tr R):Tr R:=
 aT (kr P dType) λelem=>bif lW d then aT (gT P elem) λsize=>aT (pU d) λdl=>aT (pU s) λsl=>
  BF (ξ sl dl) sl dl λn=>Bh C o size n s λcs=>Ha C o n cs d K
 else .c0
def yf(o:aB)(b:Builtin)(ts:List TypeId)(args:List AV)(K:AV×aB->Tr R):Tr R:=match b with
 | .len=>(match args with
   | [x]=>aT ts[0]? λt=>J0 x (P.a0 t) λv=>K (v,o)
   | _=>.c0)
 | .cap=>(match args with
   | [x]=>aT ts[0]? λt=>JQ x (P.a0 t) λv=>K (v,o)
   | _=>.c0)
 | .append=>(match args with
   | [s,x]=>aT ts[0]? λt=>aT ts[1]? λu=>GJ P C o t u s x K
   | _=>.c0)
 | .copy=>(match args with
   | [d,s]=>aT ts[0]? λt=>PR P C o t d s K
   | _=>.c0)
 | b=>aT (gb P C o b ts args) K
theorem jC(n:Nat):goInt n=.a .i64 (.ofNat n):=by cases n<;>rfl
theorem IF{d:Option TypeDesc}{K:AV->Tr R}{s:R}(h:(J0 x d K).b0=some s):∃v,IX x d=some v/\(K v).b0=some s:=by
 unfold J0 at h;unfold IX;split at h
 . split at h
   . grind [jC]
   . cases h
 . split at h
   . grind [jC]
   . grind [jC]
   . cases h
 . grind [jC]
 . cases h
theorem IL{d:Option TypeDesc}{K:AV->Tr R}{s:R}(h:(JQ x d K).b0=some s):∃v,H6 x d=some v/\(K v).b0=some s:=by
 unfold JQ at h;unfold H6;split at h
 . split at h
   . grind [jC]
   . grind [jC]
   . cases h
 . cases h
theorem yM{o:aB}{K:List AV->Tr R}{s:R}(h:(Bh C o size n x K).b0=some s):∃v,jN C o size n x=some v/\(K v).b0=some s:=by
 unfold Bh at h;unfold jN;split at h
 . obtain⟨h1,h⟩:=bG h;obtain⟨cs,hc,h⟩:=ar h;grind [ti,ok,mA,ob]
 . grind [bG,ok]
 . grind [bG,ok]
 . cases h
theorem adm{o:aB}{id off:Nat}{vs:List AV}{K:aB->Tr R}{s:R}(h:(FL C o id off vs K).b0=some s):∃o',jO C o id off vs=some o'/\(K o').b0=some s:=by
 obtain⟨x,hx,h⟩:=ar h;grind [Dh,jO,ob]
theorem zN{o:aB}{new:List AV}{K:AV×aB->Tr R}{s:R}(h:(s8 C o size n new x K).b0=some s):∃r,jt C o size n new x=some r/\(K r).b0=some s:=by
 unfold s8 at h;unfold jt;split at h
 . grind
 . rename_i id off len c;simp only;unfold appendCap;split at h
   . rename_i c;simp only[Tr.b0]at h;simp only[lB];cases hb:ξ (len+n) c with
     | true=>
       grind [adm,ob]
     | false=>
       rw[hb,cond_false]at h;obtain⟨cs,hc,h⟩:=ar h;grind [ti,mA,ob]
   . rename_i k;obtain⟨h1,h⟩:=bG h;obtain⟨y,hy,h⟩:=ar h;simp only[UR,h1,ok,cond_true,hy,ob];split at h
     . grind [bG,zl,ok]
     . cases h
 . cases h
theorem D7{o:aB}{t u:TypeId}{y:AV}{K:AV×aB->Tr R}{s:R}(h:(GJ P C o t u x y K).b0=some s):∃r,pt P C o t u x y=some r/\(K r).b0=some s:=by
 obtain⟨e,he,h⟩:=ar h;obtain⟨h1,h⟩:=dk h;obtain⟨sz,hs,h⟩:=ar h;obtain⟨z,hz,h⟩:=ar h;obtain⟨n,hn,h⟩:=ar h;obtain⟨sl,hsl,h⟩:=ar h;simp only[pt,he,ob,h1,ok,cond_true,hs,hz,hn,hsl];simp only[Tr.b0]at h;cases hb:ν n 0 with
 | true=>
   rw[hb,cond_true]at h;obtain⟨h2,h⟩:=bG h;exact⟨_,by simp only[cond_true,h2],h⟩
 | false=>
   rw[hb,cond_false]at h;obtain⟨h2,h⟩:=bG h;obtain⟨h3,h⟩:=dk h;obtain⟨new,h4,h⟩:=yM C h;obtain⟨h5,h⟩:=bG h;obtain⟨r,hr,h⟩:=zN C h;have h6:(true&&ν (bU z).length sz&&B3 sz y)=true:=by rw[Bool.true_and];exact h3
   exact⟨r,by simp only[cond_false,h2,h6,cond_true,h4,h5,hr],h⟩
theorem Ij{o:aB}{t:TypeId}{d:AV}{K:AV×aB->Tr R}{s:R}(h:(PR P C o t d x K).b0=some s):∃r,AF P C o t d x=some r/\(K r).b0=some s:=by
 obtain⟨e,he,h⟩:=ar h;obtain⟨h1,h⟩:=dk h;obtain⟨sz,hs,h⟩:=ar h;obtain⟨dl,hd,h⟩:=ar h;obtain⟨sl,hsl,h⟩:=ar h;have h:=oF h;obtain⟨cs,hc,h⟩:=yM C h;simp only[AF,he,ob,h1,ok,cond_true,hs,hd,hsl,L9,hc];unfold Ha at h;unfold t_;split at h
 . grind [jC]
 . grind [bG,adm,ok,ob,jC]
 . cases h
theorem BP{o:aB}{b:Builtin}{ts:List TypeId}{K:AV×aB->Tr R}{s:R}(h:(yf P C o b ts args K).b0=some s):∃r,gb P C o b ts args=some r/\(K r).b0=some s:=by
 unfold yf at h;split at h
 . split at h
   . obtain⟨t,ht,h⟩:=ar h;grind [IF,gb,ob,one,gS]
   . cases h
 . split at h
   . obtain⟨t,ht,h⟩:=ar h;grind [IL,gb,ob,one,gS]
   . cases h
 . split at h
   . obtain⟨t,ht,h⟩:=ar h;obtain⟨u,hu,h⟩:=ar h;grind [D7,gb,ob,two]
   . cases h
 . split at h
   . obtain⟨t,ht,h⟩:=ar h;grind [Ij,gb,ob,two]
   . cases h
 . exact ar h
variable(rnd:ag6 R)
def KS(vs:List AV)(o:aB)(f:AV)(K:AV×aB->Tr R):Tr R:=match f with
 | .i f first captured=>call C f (first++vs++captured) o K
 | .n id=>rnd C id vs o K
 | _=>.c0
def Mc(ρ:Operand->Option AV)(o:aB)(c:Call)(K:AV×aB->Tr R):Tr R:=match c.callee with
 | .value f=>aT (ρ f) λfv=>aT (gz ρ c.args.toList) λvs=>KS call C rnd vs o fv K
 | .builtin b=>aT (gz ρ c.args.toList) λvs=>yf P C o b c.argTypes.toList vs K
 | _=>.c0
def AW(ρ:Operand->Option AV)(o:aB)(op:Op)(K:AV×aB->Tr R):Tr R:=match op with
 | .call c=>Mc P call C rnd ρ o c K
 | op=>Fu op P C ρ o K
def Ce(ops:Array Oper)(ts:Ts)(g:Option (Nat×Bool))(K:Bool->Tr R):Tr R:=match g with
 | none=>K true
 | g=>.d0 (ll ops ts g) K
def FJ(ops:Array Oper):List Oper->St->(St->Tr R)->Tr R
 | [],st,K=>K st
 | op::rest,st,K=>Ce ops st.ts op.guard λw=>
   bif w then AW P call C rnd (fj cfg.G st.ts) st.o op.op λr=>aT (jm st r.1 r.2 op.dst) λst'=>FJ ops rest st' K
   else aT (jm st bt st.o op.dst) λst'=>FJ ops rest st' K
def xR(ops:Array Oper):Nat->List Oper->St->List (Nat×gD)->(St×List (Nat×gD)->Tr R)->Tr R
 | _,[],st,log,K=>K (st,log)
 | i,op::rest,st,log,K=>Ce ops st.ts op.guard λw=>
   bif w then AW P call C ag8 (fj cfg.G st.ts) st.o op.op λr=>aT (jm st r.1 r.2 op.dst) λst'=>
    bif xU (C.lo+st.o.n) (cX cfg (fj cfg.G st.ts) op.op)then xR ops (i+1) rest st' ((i,cX cfg (fj cfg.G st.ts) op.op)::log) K else .c0
   else aT (jm st bt st.o op.dst) λst'=>xR ops (i+1) rest st' ((i,.c)::log) K
def wO(callI:CI R)(ops:Array Oper)(draw:Bool)(st:St)(K:St->Tr R):Tr R:=
 bif draw then aT (Hb ops) λacc=>xR P cfg call C ops 0 ops.toList st [] λr=>bif XT ops acc r.2 r.2 then K r.1 else .c0
 else FJ P cfg callI C rnd ops ops.toList st K
end
section
variable(P:fm)(cfg:cL)(orcT:zy)
def BJ(code:ol R)(C:bg)(fn:Func)(c:Code)(args:List AV)(o:aB)(K:AV×aB->Tr R):Tr R:=
 bif ξ args.length 1000 then code C c (jS fn args o) λx=>aT (wj P C fn x) K else .c0
def JX(inl:Bool)(code:ol R)(C:bg)(f:FuncId)(args:List AV)(o:aB)(K:AV×aB->Tr R):Tr R:=
 aT (aY P f) λfc=>bif cfg.d0 f&&bc cfg.a0.n args then
  BJ P code ⟨[(0,cfg.a0)],cfg.a0.n⟩ fc.1 fc.2 args ⟨0,[],[]⟩ λr=>bif rD cfg.a0.n 20 r.1 then K (r.1,o)else .c0
  else bif inl&&Dx args then BJ P code C fc.1 fc.2 args o K
  else BJ P code ⟨(C.lo,o)::C.B,C.lo+o.n⟩ fc.1 fc.2 args ⟨0,[],gy C o (hI args (cfg.b0 f))⟩ λr=>K (Cg C o (gy C o (hI args (cfg.b0 f))) r)
def abQ(inl:Bool)(code:ol R)(C:bg)(f:FuncId)(args:List AV)(o:aB)(K:AV×aB->Tr R):Tr R:=match orcT f C args o with
 | some t=>t.i0 K
 | none=>JX P cfg inl code C f args o K
def rK(f:St->(AX×St->Tr R)->Tr R)(x:AX×St)(K:AX×St->Tr R):Tr R:=match x.1 with
 | .a=>f x.2 K
 | _=>K x
def CG(f:Code->Tr R)(a b:Code)(v:AV):Tr R:=match v with
 | .b d=>.d0 d λe=>bif e then f a else f b
 | _=>.c0
def agh(C:bg)(id:Nat)(K:AV×aB->Tr R)(x:AX×St):Tr R:=aT (u_ C id x) K
def acJ(code:ol R)(C:bg)(id:Nat)(body:Code)(K:AV×aB->Tr R)(x:AX×St):Tr R:=
 bif qu x.1 then aT (qw C x.2.o id) λr=>bif O2 r.f0 then code C body ⟨x.2.ts,x.2.tn,kV C x.2.o id (.c ⟨.busy,r.e0,r.ts,r.tn,r.b0,r.a0,r.c0,r.d0⟩),x.2.ds,x.2.ro⟩ (agh C id K)else .c0 else .c0
def ad_(code:ol R):ag6 R:=λC id args o K=>
 aT (qw C o id) λr=>aT (Hp r.tn r.ts r.b0.toList args) λts=>code C r.a0 ⟨ts,r.tn,o,[],some id⟩ (acJ code C id r.c0 K)
def adF(code:ol R)(C:bg)(l:Nat)(o:aB)(K:AV×aB->Tr R)(v:AV):Tr R:=match v with
 | .i f first captured=>aT (aY P f) λfc=>BJ P code C fc.1 fc.2 (first++[.n l]++captured) o K
 | _=>.c0
end
abbrev kM(R:Type):Type:=fm->cL->zy->ol R->bg->St->(AX×St->Tr R)->Tr R
def PV:kM R:=λ_ _ _ _ _ st K=>K (.a,st)
def ZL(a b:Code):kM R:=λ_ _ _ code C st K=>code C a st λx=>rK (code C b) x K
def XC(c:Operand)(a b:Code):kM R:=λ_ cfg _ code C st K=>aT (fj cfg.G st.ts c) (CG (λc=>code C c st K) a b)
def SD(id:Nat)(b:Code):kM R:=λ_ _ _ code C st K=>code C b st λr=>K (lQ id r)
def Vw(b:Code):kM R:=λ_ _ _ code C st K=>code C b st λx=>rK (code C (.loop b)) x K
def Tl(b:Code):kM R:=λ_ _ _ code C st K=>code C b st K
def amE(id:Nat):kM R:=λ_ _ _ _ _ st K=>K (.b id,st)
def YE:kM R:=λ_ _ _ _ _ st K=>K (.c,st)
def OM(ops:Array Oper)(draw:Bool):kM R:=λP cfg orcT code C st K=>wO P cfg (abQ P cfg orcT false code) C (ad_ code) (abQ P cfg orcT true code) ops draw st λst'=>K (.a,st')
def adZ(g:Operand)(ps:Array Tmp)(assign body:Code):kM R:=λP cfg _ code C st K=>
 aT (fj cfg.G st.ts g) λgv=>aT (aaS C st) λe=>adF P code C (e.2.1.b0 C) (e.2.1.a0 (.c ⟨.ready,none,st.ts,st.tn,ps,assign,body,e.1⟩)) (λr=>aT (xX C st (e.2.1.b0 C) e.2.2 r) K) gv
def Xk:kM R:=λ_ _ _ _ _ _ _=>.c0
def C2:Code->kM R
 | .skip=>PV
 | .label _=>PV
 | .seq a b=>ZL a b
 | .cond c a b=>XC c a b
 | .block id b=>SD id b
 | .loop b=>Vw b
 | .scope b=>Tl b
 | .exit id=>amE id
 | .ret=>YE
 | .region _ ops draw=>OM ops draw
 | .rangeFunc g ps assign body=>adZ g ps assign body
 | _=>Xk
def rx(P:fm)(cfg:cL)(orcT:zy):Nat->ol R
 | 0,_,_,_,_=>.c0
 | n+1,C,c,st,K=>C2 c P cfg orcT (rx P cfg orcT n) C st K
def BK(rx:ol R)(eZ:bg->Code->St->Option (AX×St)):Prop:=∀C c st K s,(rx C c st K).b0=some s->∃x,eZ C c st=some x/\(K x).b0=some s
def ae6(rndT:ag6 R)(rnd:bg->Nat->List AV->aB->Option (AV×aB)):Prop:=∀C id vs o K s,(rndT C id vs o K).b0=some s->∃x,rnd C id vs o=some x/\(K x).b0=some s
theorem agX:ae6 (R:=R) ag8 tP:=λ_ _ _ _ _ _ h=>by cases h
def BY(abQ:CI R)(aaB:bg->FuncId->List AV->aB->Option (AV×aB)):Prop:=∀C f args o K s,(abQ C f args o K).b0=some s->∃x,aaB C f args o=some x/\(K x).b0=some s
section
variable{P:fm}{cfg:cL}{call:CI R}{callA':bg->FuncId->List AV->aB->Option (AV×aB)}(hc:BY call callA'){rnd:bg->Nat->List AV->aB->Option (AV×aB)}{rndT:ag6 R}(hd:ae6 rndT rnd){C:bg}
include hc hd
theorem AP{ρ:Operand->Option AV}{o:aB}{op:Op}{K:AV×aB->Tr R}{s:R}(h:(AW P call C rndT ρ o op K).b0=some s):∃r,gQ P callA' rnd C ρ o op=some r/\(K r).b0=some s:=by
 unfold AW at h;unfold gQ;split at h
 . rename_i c;simp only;unfold Mc at h;unfold sQ;cases hcal:c.callee with
   | value f=>
     simp only[hcal]at h ⊢;obtain⟨fv,hf,h⟩:=ar h;obtain⟨vs,hvs,h⟩:=ar h;simp only[hf,hvs,ob];unfold KS at h;cases fv<;>simp only at h<;>first|(cases h;done)|skip
     . exact hc _ _ _ _ _ _ h
     . exact hd _ _ _ _ _ _ h
   | builtin b=>
     simp only[hcal]at h ⊢;obtain⟨vs,hvs,h⟩:=ar h;grind [ob,BP]
   | invoke x n=>simp only[hcal]at h;cases h
 grind [N4]
theorem w9{ops:Array Oper}:∀{l:List Oper} {st:St} {K:St->Tr R} {s:R},(FJ P cfg call C rndT ops l st K).b0=some s->∃st',CJ P cfg callA' rnd C ops l st=some st'/\(K st').b0=some s
 | [],st,K,s,h=>⟨st,rfl,h⟩
 | op::rest,st,K,s,h=>by
   have h:(bif ll ops st.ts op.guard then AW P call C rndT (fj cfg.G st.ts) st.o op.op λr=>aT (jm st r.1 r.2 op.dst) λst'=>FJ P cfg call C rndT ops rest st' K
    else aT (jm st bt st.o op.dst) λst'=>FJ P cfg call C rndT ops rest st' K).b0=some s:=by
    unfold FJ Ce at h;split at h
    . rename_i hg;rw[hg];exact h
    . exact h
   simp only[CJ];cases hw:ll ops st.ts op.guard with
   | true=>
     rw[hw,cond_true]at h;rw[cond_true];obtain⟨r,hr,h⟩:=AP hc hd h;obtain⟨st1,hp,h⟩:=ar h;obtain⟨st2,h2,h⟩:=w9 h;grind [ob]
   | false=>
     rw[hw,cond_false]at h;rw[cond_false];obtain⟨st1,hp,h⟩:=ar h;obtain⟨st2,h2,h⟩:=w9 h;grind [ob]
theorem vx{ops:Array Oper}:∀{l:List Oper} {i:Nat} {st:St} {log:List (Nat×gD)} {K:St×List (Nat×gD)->Tr R} {s:R},(xR P cfg call C ops i l st log K).b0=some s->∃r,qo P cfg callA' C ops i l st log=some r/\(K r).b0=some s
 | [],i,st,log,K,s,h=>⟨_,rfl,h⟩
 | op::rest,i,st,log,K,s,h=>by
   have h:(bif ll ops st.ts op.guard then AW P call C ag8 (fj cfg.G st.ts) st.o op.op λr=>aT (jm st r.1 r.2 op.dst) λst'=>
    bif xU (C.lo+st.o.n) (cX cfg (fj cfg.G st.ts) op.op)then xR P cfg call C ops (i+1) rest st' ((i,cX cfg (fj cfg.G st.ts) op.op)::log) K else .c0
    else aT (jm st bt st.o op.dst) λst'=>xR P cfg call C ops (i+1) rest st' ((i,.c)::log) K).b0=some s:=by
    unfold xR Ce at h;split at h
    . rename_i hg;rw[hg];exact h
    . exact h
   unfold qo;cases hw:ll ops st.ts op.guard with
   | true=>
     rw[hw,cond_true]at h;rw[cond_true];obtain⟨r,hr,h⟩:=AP hc agX h;obtain⟨st1,hp,h⟩:=ar h;obtain⟨hf,h⟩:=dk h;obtain⟨r2,h2,h⟩:=vx h;grind [ob,ok]
   | false=>
     rw[hw,cond_false]at h;rw[cond_false];obtain⟨st1,hp,h⟩:=ar h;obtain⟨r2,h2,h⟩:=vx h;grind [ob]
theorem wd{callI:CI R}{callI':bg->FuncId->List AV->aB->Option (AV×aB)}(hcI:BY callI callI'){ops:Array Oper}{draw:Bool}{K:St->Tr R}{s:R}(h:(wO P cfg call C rndT callI ops draw st K).b0=some s) :
 ∃st',kg P cfg callA' rnd C callI' ops draw st=some st'/\(K st').b0=some s:=by
 unfold wO at h;unfold kg;cases draw with
 | true=>
   rw[cond_true]at h;rw[cond_true];obtain⟨acc,ha,h⟩:=ar h;obtain⟨r,hr,h⟩:=vx hc hd h;obtain⟨h1,h2⟩:=dk h;grind [ob,ok]
 | false=>
   grind [w9]
end
section
variable{P:fm}{cfg:cL}{orcT:zy}(ho:Bt cfg orcT)
theorem qL{code:ol R}{codeA':bg->Code->St->Option (AX×St)}(hcode:BK code codeA'){fn:Func}{c:Code}{o:aB}{K:AV×aB->Tr R}{s:R}(h:(BJ P code C fn c args o K).b0=some s) :
 ∃r,lI P codeA' C fn c args o=some r/\(K r).b0=some s:=by
 obtain⟨h1,h2⟩:=dk h;obtain⟨x,hx,h3⟩:=hcode _ _ _ _ _ h2;obtain⟨r,hr,h4⟩:=ar h3;grind [lI,ok,ob]
include ho
theorem lZ{code:ol R}{codeA':bg->Code->St->Option (AX×St)}(hcode:BK code codeA'){inl:Bool}:BY (abQ P cfg orcT inl code) (aaB P cfg inl codeA'):=by
 intro C f args o K s h;unfold abQ at h;unfold aaB;cases hx:orcT f C args o with
 | some t=>
   rw[hx]at h;obtain⟨r,hr,h⟩:=Tr.g0 h;exact⟨r,by rw[ho.a0 hx hr],h⟩
 | none=>
   rw[hx]at h;rw[ho.b0 hx];simp only;unfold JX at h;obtain⟨fc,hb,h⟩:=ar h;simp only[D6,hb,ob];cases hcn:(cfg.d0 f&&bc cfg.a0.n args)with
   | true=>
     rw[hcn,cond_true]at h;rw[cond_true];obtain⟨r,hr,h⟩:=qL hcode h;obtain⟨h1,h2⟩:=dk h;grind [An,ob,ok]
   | false=>
     grind [DZ,qL,A9,ob]
theorem AY{f:St->(AX×St->Tr R)->Tr R}{g:St->Option (AX×St)}(hf:∀st K s,(f st K).b0=some s->∃x,g st=some x/\(K x).b0=some s){x:AX×St}{K:AX×St->Tr R}{s:R}(h:(rK f x K).b0=some s) :
 ∃y,v_ g x=some y/\(K y).b0=some s:=by
 grind [rK,v_]
omit ho in
theorem ac6{code:ol R}{codeA':bg->Code->St->Option (AX×St)}(hcode:BK code codeA'):ae6 (ad_ code) (qJ codeA'):=by
 intro C id vs o K s h;unfold ad_ at h;obtain⟨r,hr,h⟩:=ar h;obtain⟨ts,hts,h⟩:=ar h;obtain⟨x,hx,h⟩:=hcode _ _ _ _ _ h;unfold acJ at h;obtain⟨h1,h⟩:=dk h;obtain⟨q,hq,h⟩:=ar h;obtain⟨h2,h⟩:=dk h;obtain⟨y,hy,h⟩:=hcode _ _ _ _ _ h;obtain⟨v,hv,h⟩:=ar h;grind [qJ,ob,oO,ok]
omit ho in
theorem ado{code:ol R}{codeA':bg->Code->St->Option (AX×St)}(hcode:BK code codeA'){g:Operand}{ps:Array Tmp}{assign body:Code}{K:AX×St->Tr R}{s:R}(h:(adZ g ps assign body P cfg orcT code C st K).b0=some s):∃x,Bj g ps assign body P cfg codeA' C st=some x/\(K x).b0=some s:=by
 unfold adZ at h;obtain⟨gv,hg,h⟩:=ar h;obtain⟨e,he,h⟩:=ar h;unfold adF at h;cases gv<;>simp only at h<;>first|(cases h;done)|skip
 obtain⟨fc,hb,h⟩:=ar h;obtain⟨r,hr,h⟩:=qL hcode h;simp_all [ar,Bj,ob,yv]
theorem mq:∀n,BK (R:=R) (rx P cfg orcT n) (eZ P cfg n)
 | 0,C,c,st,K,s,h=>by cases h
 | n+1,C,c,st,K,s,h=>by
   have ih:=mq n;unfold rx at h;unfold eZ;cases c<;>simp only[C2,fN]at h ⊢
   case skip=>exact⟨_,rfl,h⟩
   case label=>exact⟨_,rfl,h⟩
   case exit=>exact⟨_,rfl,h⟩
   case ret=>exact⟨_,rfl,h⟩
   case seq a b=>
    obtain⟨x,hx,h⟩:=ih _ _ _ _ _ h;obtain⟨y,hy,h⟩:=AY ho (λst K s=>ih C b st K s) h;grind [Nk,ob]
   case cond c a b=>
    obtain⟨v,hv,h⟩:=ar h;unfold CG at h;cases v<;>simp only at h<;>first|(cases h;done)|skip
    rename_i d;simp only[Tr.b0]at h;simp only[Ho,hv,ob];cases d with
    | true=>exact ih _ _ _ _ _ h
    | false=>exact ih _ _ _ _ _ h
   case block id b=>
    obtain⟨x,hx,h⟩:=ih _ _ _ _ _ h;grind [Bq,ob]
   case loop b=>
    obtain⟨x,hx,h⟩:=ih _ _ _ _ _ h;obtain⟨y,hy,h⟩:=AY ho (λst K s=>ih C (.loop b) st K s) h;grind [adD,ob]
   case scope b=>exact ih _ _ _ _ _ h
   case region id ops draw=>
    obtain⟨st',hs,h⟩:=wd (lZ ho ih) (ac6 ih) (lZ ho ih) h;grind [W3,ob]
   case rangeFunc g ps assign body=>exact ado ih h
   all_goals cases h
end
end
abbrev FG:Type:=bg->List AV->aB->Option (Tr (AV×aB))
abbrev aQ:Type:=FuncId->Option FG
abbrev dP:Type:=List AV->Option (Tr AV)
def ZC(o:aB)(v:AV):Tr (AV×aB):=.a0 (v,o)
def TS(o:aB):Option (Tr AV)->Option (Tr (AV×aB))
 | some t=>some (t.i0 (ZC o))
 | none=>none
def BI(e:dP):FG:=λ_ args o=>TS o (e args)
def tK(S:aQ):zy:=λf C args o=>ob (S f) λe=>e C args o
def NX:Option (Tr (AV×aB))->Option (AV×aB)
 | some t=>t.b0
 | none=>none
def cH(cfg:cL)(S:aQ):cL:=⟨cfg.G,cfg.b0,cfg.d0,λf C args o=>NX (tK S f C args o),cfg.a0⟩
theorem nj(cfg:cL)(S:aQ):Bt (cH cfg S) (tK S):=
 ⟨λ{f C args o t} h {r} hr=>by show NX (tK S f C args o)=_;rw[h];exact hr,λ{f C args o} h=>by show NX (tK S f C args o)=_;rw[h];rfl⟩
def ky(P:Program)(cfg:cL)(f:FuncId)(e:dP):Prop:=∀args t v,e args=some t->t.b0=some v->gM P cfg f args v
def tD(P:Program)(cfg:cL)(f:FuncId)(e:FG):Prop:=∀C args o t r,e C args o=some t->t.b0=some r->
 (∀D m w,dX cfg D m C o w->fM D m args->jV P f (aD m args).toArray w λV w'=>∃D' m',V=aj m' r.1/\dh D' m' r.1/\dw cfg C D m o w D' m' r.2 w'/\(hI args (cfg.b0 f)=[]->aa9 D w D' m' w'))/\(o.os.length=o.n->fh C o r.2 (hI args (cfg.b0 f)))
def ak(P:Program)(cfg:cL)(S:aQ):Prop:=∀f e,S f=some e->tD P cfg f e
theorem JM{cfg:cL}{e:dP}(h:ky P cfg f e):tD P cfg f (BI e):=by
 intro C args o t r ht hr;unfold BI at ht;cases hx:e args with
 | none=>rw[hx]at ht;cases ht
 | some t'=>
   rw[hx]at ht;cases ht;obtain⟨v,hv,h2⟩:=Tr.g0 (t:=t') hr;cases h2;exact⟨λD m w hi hok=>(h args t' v hx hv C D m o w hi hok).a0 λV w' ⟨h1,h2,h3,h4⟩=>⟨D,m,h1,h2,h3,λ_=>h4⟩,λhl=>.a0 hl⟩
theorem gM.to{cfg cfg':cL}(hG:cfg'.G=cfg.G)(hr:cfg'.a0=cfg.a0)(h:gM P cfg f args v):gM P cfg' f args v:=by
 intro C D m o w hi hok;exact(h C D m o w (dX.to (cfg:=cfg') (cfg':=cfg) hG.symm hr.symm hi) hok).a0 λV w' ⟨h1,h2,h3,h4⟩=>⟨h1,h2,dw.to hG hr h3,h4⟩
structure xS(P:Program)(T:fm)(cfg:cL):Prop where
 e0:fH P T
 d0:P.follows .mixedOrders=true
 lv:qX cfg
theorem xS.a0{cfg:cL}(g:xS P T cfg){S:aQ}(hS:ak P cfg S):nG P T (cH cfg S):=by
 have key:∀{f C args o} {r:AV×aB},NX (tK S f C args o)=some r->∃e t,S f=some e/\e C args o=some t/\t.b0=some r:=by
  intro f C args o r h;unfold tK at h;cases hx:(ob (S f) λe=>e C args o)with
  | none=>rw[hx]at h;cases h
  | some t=>
    rw[hx]at h;rw[ag]at hx;obtain⟨e,he,ht⟩:=hx;exact⟨e,t,he,ht,h⟩
 refine⟨g.e0,g.d0,⟨g.lv.a0,g.lv.G,g.lv.b0⟩,λC f args o r h D m w hi hok=>?_,λC f args o r h hl=>?_⟩
 . obtain⟨e,t,he,ht,hr⟩:=key h;exact((hS f e he C args o t r ht hr).1 D m w (dX.to (cfg:=cH cfg S) (cfg':=cfg) rfl rfl hi) hok).a0 λV w' ⟨D',m',h1,h2,h3,h4⟩=>⟨D',m',h1,h2,dw.to (cfg:=cfg) (cfg':=cH cfg S) rfl rfl h3,λ_ h=>h4 h⟩
 . obtain⟨e,t,he,ht,hr⟩:=key h;exact(hS f e he C args o t r ht hr).2 hl
def mG(T:fm)(cfg:cL)(S:aQ)(n:Nat)(f:FuncId)(args:List AV):Tr AV:=
 bif bc cfg.a0.n args then aT (aY T f) λfc=>BJ T (rx T (cH cfg S) (tK S) n) ⟨[(0,cfg.a0)],cfg.a0.n⟩ fc.1 fc.2 args ⟨0,[],[]⟩ λr=>bif rD cfg.a0.n 20 r.1 then .a0 r.1 else .c0
 else .c0
theorem xS.f0{cfg:cL}(g:xS P T cfg){S:aQ}(hS:ak P cfg S)(h:(mG T cfg S n f args).b0=some v):gM P cfg f args v:=by
 have gg:=g.a0 hS;obtain⟨hb,h⟩:=dk h;obtain⟨fc,hf,h⟩:=ar h;obtain⟨r,he,h⟩:=qL (mq (nj cfg S) n) h;obtain⟨h1,h2⟩:=dk h;cases h2;refine gM.to (cfg:=cH cfg S) (cfg':=cfg) rfl rfl λC D m o w hi hok=>?_;exact ac8 gg.d0 gg.lv (rv gg.d0 gg.b0 gg.lv gg.e0 gg.c0 n).1 (px gg.c0 n) hf hb (by simp only[An,ag,aA,Option.some.injEq];exact⟨r,he,h1,rfl⟩) hi hok
inductive DT where
 | z
 | e (D:DT)
 | b (x y:DT)
 | t (D:DT)
 | f (D:DT)
 | n (j:Nat) (D:DT)
 | o (j:Nat) (x y:DT)
def P_(c m:Nat)(r:Nat->(DT->Nat->DT)->DT)(k:DT->Nat->DT):DT:=match c with
 | 0=>r m λD=>k (.e D)
 | 1=>k .z m
 | 2=>r m λD=>k (.t D)
 | 3=>r m λD=>k (.f D)
 | 4=>r m λx m=>r m λy=>k (.b x y)
 | 5=>r m λD=>k (.e (.e (.e (.e D))))
 | 6=>r m λD=>k (.e (.e (.e (.e (.e (.e (.e (.e (.e D)))))))))
 | 7=>r m λD=>k (.t (.t (.t D)))
 | _=>r m λD=>k (.f (.f (.f D)))
noncomputable def Qb(f:Nat):Nat->(DT->Nat->DT)->DT:=
 Nat.rec (λ_ _=>.z) (λ_ r n k=>P_ (Nat.mod n 10) (Nat.div n 10) r k) f
noncomputable def bE(n:Nat):DT:=Qb 100000 n λD _=>D
def ask{R:Type}(Q:R->Prop):Tr R->DT->Prop
 | .a0 a,_=>Q a
 | .c0,_=>False
 | .d0 c k,D=>match D with
   | .e D=>ask Q (k c) D
   | .b x y=>(c->ask Q (k true) x)/\(c=false->ask Q (k false) y)
   | .t D=>c/\ask Q (k true) D
   | .f D=>c=false/\ask Q (k false) D
   | _=>False
 | .f0 i k,D=>match D with
   | .e D=>ask Q (k i) D
   | .n j D=>i=j/\ask Q (k j) D
   | .o j x y=>(i=j->ask Q (k j) x)/\(i≠j->ask Q (k i) y)
   | _=>False
 | .e0 _,_=>False
theorem iH{R:Type}{Q:R->Prop}:∀{t:Tr R} {D:DT},ask Q t D->∃a,t.b0=some a/\Q a
 | .a0 a,D,h=>⟨a,rfl,h⟩
 | .c0,D,h=>h.elim
 | .d0 c k,D,h=>by
   unfold ask at h;split at h
   . exact iH (t:=k c) h
   . cases c with
     | true=>exact iH (t:=k true) (h.1 rfl)
     | false=>exact iH (t:=k false) (h.2 rfl)
   . obtain⟨rfl,h⟩:=h;exact iH (t:=k true) h
   . obtain⟨rfl,h⟩:=h;exact iH (t:=k false) h
   grind
 | .f0 i k,D,h=>by
   unfold ask at h;split at h
   . exact iH (t:=k i) h
   . obtain⟨rfl,h⟩:=h;exact iH (t:=k i) h
   . rename_i j x y;by_cases e:i=j
     . cases e;exact iH (t:=k i) (h.1 rfl)
     . exact iH (t:=k i) (h.2 e)
   grind
 | .e0 _,D,h=>h.elim
def gG{R:Type}(Q:R->Prop):Tr R->DT->Prop
 | .a0 a,_=>Q a
 | .c0,_=>False
 | .d0 c k,D=>match D with
   | .e D=>gG Q (k c) D
   | .b x y=>(c->gG Q (k true) x)/\(c=false->gG Q (k false) y)
   | .t D=>c/\gG Q (k true) D
   | .f D=>c=false/\gG Q (k false) D
   | _=>False
 | .f0 i k,D=>match D with
   | .e D=>gG Q (k i) D
   | .n j D=>i=j/\gG Q (k j) D
   | .o j x y=>(i=j->gG Q (k j) x)/\(i≠j->gG Q (k i) y)
   | _=>False
 | .e0 k,D=>∀J,gG Q (k J) D
theorem cg{R:Type}{Q:R->Prop}:∀{t:Tr R} {D:DT},gG Q t D->t.wp Q
 | .a0 a,D,h=>h
 | .c0,D,h=>h.elim
 | .d0 c k,D,h=>by
   unfold gG at h;split at h
   . exact cg (t:=k c) h
   . cases c with
     | true=>exact cg (t:=k true) (h.1 rfl)
     | false=>exact cg (t:=k false) (h.2 rfl)
   . obtain⟨rfl,h⟩:=h;exact cg (t:=k true) h
   . obtain⟨rfl,h⟩:=h;exact cg (t:=k false) h
   grind
 | .f0 i k,D,h=>by
   unfold gG at h;split at h
   . exact cg (t:=k i) h
   . obtain⟨rfl,h⟩:=h;exact cg (t:=k i) h
   . rename_i j x y;by_cases e:i=j
     . cases e;exact cg (t:=k i) (h.1 rfl)
     . exact cg (t:=k i) (h.2 e)
   grind
 | .e0 k,D,h=>λJ=>cg (t:=k J) (h J)
theorem xS.b0{cfg:cL}(g:xS P T cfg){S:aQ}(hS:ak P cfg S){D:DT}(h:Ev.ask (·=v) (mG T cfg S n f args) D):gM P cfg f args v:=by
 obtain⟨a,h1,h2⟩:=iH h;cases h2;exact g.f0 hS h1
def gZ:aQ:=λ_=>none
def eQ(S:aQ)(f:FuncId)(e:FG):aQ:=λg=>bif ν g f then some e else S g
def pX(S:aQ)(f:FuncId)(e:dP):aQ:=eQ S f (BI e)
theorem aW{cfg:cL}:ak P cfg gZ:=λf l h=>by cases h
theorem bm{cfg:cL}{S:aQ}{e:FG}(h:ak P cfg S)(he:tD P cfg f e):ak P cfg (eQ S f e):=λg e' hg=>by
 unfold eQ at hg;cases hb:ν g f with
 | true=>
   simp_all
 | false=>rw[hb]at hg;exact h g e' hg
theorem eG{cfg:cL}{S:aQ}{e:dP}(h:ak P cfg S)(he:ky P cfg f e):ak P cfg (pX S f e):=bm h (JM he)
theorem qW(a b:Int):Int.add a b=a+b:=rfl
theorem MH(a b:Int):Int.sub a b=a-b:=rfl
theorem K5(a b:Int):Int.mul a b=a*b:=rfl
theorem Wo(a b:Int):Int.tdiv a b=a.tdiv b:=rfl
theorem UH(a:Int):Int.neg a = -a:=rfl
theorem YB:UInt8.ofNat 0=(0:UInt8):=rfl
theorem Bv(n:Nat):Int.ofNat n=(n:Int):=rfl
theorem ao{a b:Int}:(aa a b=true)=(a=b):=propext o7
theorem aw{a b:Int}:(aa a b=false)=(a≠b):=by
 grind [ao]
theorem aq{a b:Int}:(ab a b=true)=(a<=b):=by rw[q5];simp
theorem bF{a b:Int}:(ab a b=false)=(b<a):=by rw[q5];simp
theorem qy{a:Nat}:(aS a b=true)=(a<b):=propext aU
theorem Q6{a:Nat}:(aS a b=false)=(b<=a):=by
 grind [qy]
theorem al{a:Nat}:(ξ a b=true)=(a<=b):=propext eK
theorem Cn{a:Nat}:(ξ a b=false)=(b<a):=by
 grind [al]
theorem aJ{a:Nat}:(ν a b=true)=(a=b):=propext cQ
theorem b9{a:Nat}:(ν a b=false)=(a≠b):=by
 grind [aJ]
theorem nr:(Bool.not a=true)=(a=false):=θ
theorem GM:(Bool.not a=false)=(a=true):=θ
theorem Bw{b:Bool}:(Bool.and a b=true)=(a/\b=true):=θ
theorem NJ{b:Bool}:(Bool.and a b=false)=(a=false\/b=false):=η
theorem ES{b:Bool}:(Bool.or a b=true)=(a\/b=true):=θ
theorem Rb{b:Bool}:(Bool.or a b=false)=(a=false/\b=false):=θ
theorem Jl:(bQ a false=true)=(a=false):=by grind [bQ]
theorem Tq:(bQ a false=false)=(a=true):=by grind [bQ]
theorem Rd:(bQ a true=true)=(a=true):=by grind [bQ]
theorem QL:(bQ a true=false)=(a=false):=by grind [bQ]
theorem aE{k:IntKind}{n:Int}:(af k n=true)=(eH k<=n/\n<=eE k):=by grind [af,aq]
theorem Nw{k:IntKind}{n:Int}:(af k n=false)=¬(eH k<=n/\n<=eE k):=by grind [aE]
theorem Pp:(∀a b,Int.add a b=a+b)/\(∀a b,Int.sub a b=a-b)/\(∀a b,Int.mul a b=a*b)/\(∀a b,Int.tdiv a b=a.tdiv b)/\(∀a,Int.neg a = -a)/\UInt8.ofNat 0=(0:UInt8)/\(∀n:Nat,Int.ofNat n=(n:Int))/\
 (∀a b,(aa a b=true)=(a=b))/\(∀a b,(aa a b=false)=(a≠b))/\(∀a b,(ab a b=true)=(a<=b))/\(∀a b,(ab a b=false)=(b<a))/\(∀a b,(aS a b=true)=(a<b))/\(∀a b,(aS a b=false)=(b<=a))/\
 (∀a b,(ξ a b=true)=(a<=b))/\(∀a b,(ξ a b=false)=(b<a))/\(∀a b,(ν a b=true)=(a=b))/\(∀a b,(ν a b=false)=(a≠b))/\(∀a,(Bool.not a=true)=(a=false))/\(∀a,(Bool.not a=false)=(a=true))/\
 (∀a b,(Bool.and a b=true)=(a/\b=true))/\(∀a b,(Bool.and a b=false)=(a=false\/b=false))/\(∀a b,(Bool.or a b=true)=(a\/b=true))/\(∀a b,(Bool.or a b=false)=(a=false/\b=false))/\
 (∀a,(bQ a false=true)=(a=false))/\(∀a,(bQ a false=false)=(a=true))/\(∀a,(bQ a true=true)=(a=true))/\(∀a,(bQ a true=false)=(a=false))/\
 (∀k n,(af k n=true)=(eH k<=n/\n<=eE k))/\(∀k n,(af k n=false)=¬(eH k<=n/\n<=eE k))/\(∀p:Prop,(p/\True)=p)/\(∀p:Prop,(p\/False)=p)/\(∀p:Prop,(False\/p)=p)/\((¬True)=False):=
 ⟨qW,MH,K5,Wo,UH,YB,Bv,λ_ _=>ao,λ_ _=>aw,λ_ _=>aq,λ_ _=>bF,λ_ _=>qy,λ_ _=>Q6,λ_ _=>al,λ_ _=>Cn,λ_ _=>aJ,λ_ _=>b9,
  λ_=>nr,λ_=>GM,λ_ _=>Bw,λ_ _=>NJ,λ_ _=>ES,λ_ _=>Rb,λ_=>Jl,λ_=>Tq,λ_=>Rd,λ_=>QL,λ_ _=>aE,λ_ _=>Nw,and_true,or_false,false_or,not_true_eq_false⟩
theorem So:eH .i8 = -128/\eE .i8=127/\eH .i16 = -32768/\eE .i16=32767/\eH .i32 = -2147483648/\eE .i32=2147483647/\eH .i64 = -9223372036854775808/\eE .i64=9223372036854775807/\eH .u8=0/\eE .u8=255/\eH .u16=0/\eE .u16=65535/\eH .u32=0/\eE .u32=4294967295/\eH .u64=0/\eE .u64=18446744073709551615/\∀(α:Type) (a b:α),(a≠b)=¬a=b:=⟨rfl,rfl,rfl,rfl,rfl,rfl,rfl,rfl,rfl,rfl,rfl,rfl,rfl,rfl,rfl,rfl,λ_ _ _=>rfl⟩
def az:=And.intro Pp So
end Go.Ev
