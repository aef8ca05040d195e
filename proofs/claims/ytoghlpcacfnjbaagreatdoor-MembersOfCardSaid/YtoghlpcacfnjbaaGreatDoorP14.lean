import Derived.Test.YtoghlpcacfnjbaaGreatDoorP13
set_option linter.all false
set_option maxRecDepth 100000
set_option maxHeartbeats 4000000
namespace Go.Ev
open Go
variable{x:AV}{o:aC}{size n b:Nat}{args:List AV}{P:Program}{f:FuncId}{T:fb}
abbrev yW:Type:=FuncId->bg->List AV->aC->Option (Tr (AV×aC))
structure A2(cfg:cG)(orcT:yW):Prop where
 some':∀{f C args o t},orcT f C args o=some t->∀{r},t.run=some r->cfg.orc f C args o=some r
 none':∀{f C args o},orcT f C args o=none->cfg.orc f C args o=none
section
variable{R:Type}
abbrev CI(R:Type):Type:=bg->FuncId->List AV->aC->(AV×aC->Tr R)->Tr R
abbrev nH(R:Type):Type:=bg->Code->St->(AX×St->Tr R)->Tr R
section
variable(P:fb)(cfg:cG)(call:CI R)(C:bg)
def IA(x:AV)(d:Option TypeDesc)(K:AV->Tr R):Tr R:=match d with
 | some .string=>(match x with
   | .str s=>K (.int .i64 (.ofNat s.length))
   | _=>.fail)
 | some (.slice _)=>(match x with
   | .slice _ _ n _=>K (.int .i64 (.ofNat n))
   | .nilslice=>K (.int .i64 0)
   | _=>.fail)
 | some (.array n _)=>K (.int .i64 (.ofNat n))
 | _=>.fail
def K6(x:AV)(d:Option TypeDesc)(K:AV->Tr R):Tr R:=match d with
 | some (.slice _)=>(match x with
   | .slice _ _ _ (.known n)=>K (.int .i64 (.ofNat n))
   | .nilslice=>K (.int .i64 0)
   | _=>.fail)
 | _=>.fail
def As(o:aC)(size n:Nat)(x:AV)(K:List AV->Tr R):Tr R:=match x with
 | .slice id off len _=>fI (Nat.ble n len) (aU (cellsOf (get C o id)) λcs=>FF cs off (n*size) K)
 | .nilslice=>fI (Nat.beq n 0) (K [])
 | .str s=>fI (Nat.ble n s.length) (K ((s.take n).map jt))
 | _=>.fail
def ER(o:aC)(id off:Nat)(vs:List AV)(K:aC->Tr R):Tr R:=aU (dW C o id) λx=>Np off vs x λx'=>K (eF C o id x')
def sB(o:aC)(size n:Nat)(new:List AV)(s:AV)(K:AV×aC->Tr R):Tr R:=match s with
 | .nilslice=>K (oE C o size n new)
 | .slice id off len c=>(match c with
   | .known c=>.test (Nat.ble (len+n) c) λb=>bif b then ER C o id (off+len*size) new λo'=>K (.slice id off (len+n) (.known c),o')
     else aU (cellsOf (get C o id)) λcs=>FF cs off (len*size) λold=>K (oE C o size (len+n) (old++new))
   | .rest k=>fI (Nat.beq off 0&&Nat.beq k 0) (aU (dW C o id) λx=>(match x with
     | .cells cs true (some g)=>fI (Nat.beq g size&&Nat.beq cs.length (len*size)) (K (oE C (eF C o id .dead) size (len+n) (cs++new)))
     | _=>.fail)))
 | _=>.fail
def FD(o:aC)(sType xType:TypeId)(s x:AV)(K:AV×aC->Tr R):Tr R:=
 aU (kx P sType) λelem=>bif oX P xType&&tj P elem&&lS s then aU (gO P elem) λsize=>aU (kW P elem) λz=>aU (pJ x) λn=>aU (pJ s) λsl=>
  .test (Nat.beq n 0) λb=>bif b then fI (OC s) (K (s,o))else fI (Jk sl n size) (bif Nat.beq (bU z).length size&&Bu size x then As C o size n x λnew=>fI (ff new) (sB C o size n new s K)else .fail)
 else .fail
def GI(o:aC)(n:Nat)(cs:List AV)(d:AV)(K:AV×aC->Tr R):Tr R:=match d with
 | .nilslice=>K (.int .i64 (.ofNat n),o)
 | .slice id off _ _=>fI (ff cs) (ER C o id off cs λo'=>K (.int .i64 (.ofNat n),o'))
 | _=>.fail
def OQ(o:aC)(dType:TypeId)(d s:AV)(K:AV×aC->Tr R):Tr R:=
 aU (kx P dType) λelem=>bif lS d then aU (gO P elem) λsize=>aU (pJ d) λdl=>aU (pJ s) λsl=>
  AB (Nat.ble sl dl) sl dl λn=>As C o size n s λcs=>GI C o n cs d K
 else .fail
def xm(o:aC)(b:Builtin)(ts:List TypeId)(args:List AV)(K:AV×aC->Tr R):Tr R:=match b with
 | .len=>(match args with
   | [x]=>aU ts[0]? λt=>IA x (P.und t) λv=>K (v,o)
   | _=>.fail)
 | .cap=>(match args with
   | [x]=>aU ts[0]? λt=>K6 x (P.und t) λv=>K (v,o)
   | _=>.fail)
 | .append=>(match args with
   | [s,x]=>aU ts[0]? λt=>aU ts[1]? λu=>FD P C o t u s x K
   | _=>.fail)
 | .copy=>(match args with
   | [d,s]=>aU ts[0]? λt=>OQ P C o t d s K
   | _=>.fail)
 | b=>aU (fU P C o b ts args) K
theorem jm(n:Nat):goInt n=.int .i64 (.ofNat n):=by cases n<;>rfl
theorem HK{d:Option TypeDesc}{K:AV->Tr R}{s:R}(h:(IA x d K).run=some s):∃v,H4 x d=some v/\(K v).run=some s:=by
 unfold IA at h;unfold H4;split at h
 . split at h
   . exact⟨_,by simp only[jm],h⟩
   . cases h
 . split at h
   . exact⟨_,by simp only[jm],h⟩
   . exact⟨_,by simp only[jm];rfl,h⟩
   . cases h
 . exact⟨_,by simp only[jm],h⟩
 . cases h
theorem G5{d:Option TypeDesc}{K:AV->Tr R}{s:R}(h:(K6 x d K).run=some s):∃v,HX x d=some v/\(K v).run=some s:=by
 unfold K6 at h;unfold HX;split at h
 . split at h
   . exact⟨_,by simp only[jm],h⟩
   . exact⟨_,by simp only[jm];rfl,h⟩
   . cases h
 . cases h
theorem x8{K:List AV->Tr R}{s:R}(h:(As C o size n x K).run=some s):∃v,jG C o size n x=some v/\(K v).run=some s:=by
 unfold As at h;unfold jG;split at h
 . obtain⟨h1,h⟩:=bE h;obtain⟨cs,hc,h⟩:=ar h;obtain⟨vs,hv,h⟩:=sA h;exact⟨vs,by simp only[h1,ok,cond_true,mc,hc,ob,hv],h⟩
 . obtain⟨h1,h⟩:=bE h;exact⟨_,by simp only[h1,ok,cond_true],h⟩
 . obtain⟨h1,h⟩:=bE h;exact⟨_,by simp only[h1,ok,cond_true],h⟩
 . cases h
theorem yM{id off:Nat}{vs:List AV}{K:aC->Tr R}{s:R}(h:(ER C o id off vs K).run=some s):∃o',ly C o id off vs=some o'/\(K o').run=some s:=by
 obtain⟨x,hx,h⟩:=ar h;obtain⟨y,hy,h⟩:=Ck h;exact⟨_,by simp only[ly,hx,ob,hy],h⟩
theorem yU{new:List AV}{K:AV×aC->Tr R}{s:R}(h:(sB C o size n new x K).run=some s):∃r,jy C o size n new x=some r/\(K r).run=some s:=by
 unfold sB at h;unfold jy;split at h
 . grind
 . rename_i id off len c;simp only;unfold appendCap;split at h
   . rename_i c;simp only[Tr.run]at h;simp only[kR];cases hb:Nat.ble (len+n) c with
     | true=>
       rw[hb,cond_true]at h;obtain⟨o',ho,h⟩:=yM C h;exact⟨_,by simp only[cond_true,ho,ob],h⟩
     | false=>
       rw[hb,cond_false]at h;obtain⟨cs,hc,h⟩:=ar h;obtain⟨vs,hv,h⟩:=sA h;exact⟨_,by simp only[cond_false,mc,hc,ob,hv],h⟩
   . rename_i k;obtain⟨h1,h⟩:=bE h;obtain⟨y,hy,h⟩:=ar h;simp only[mV,h1,ok,cond_true,hy,ob];split at h
     . obtain⟨h2,h⟩:=bE h;exact⟨_,by simp only[yF,h2,ok,cond_true],h⟩
     . cases h
 . cases h
theorem Ch{t u:TypeId}{y:AV}{K:AV×aC->Tr R}{s:R}(h:(FD P C o t u x y K).run=some s):∃r,pk P C o t u x y=some r/\(K r).run=some s:=by
 obtain⟨e,he,h⟩:=ar h;obtain⟨h1,h⟩:=c_ h;obtain⟨sz,hs,h⟩:=ar h;obtain⟨z,hz,h⟩:=ar h;obtain⟨n,hn,h⟩:=ar h;obtain⟨sl,hsl,h⟩:=ar h;simp only[pk,he,ob,h1,ok,cond_true,hs,hz,hn,hsl];simp only[Tr.run]at h;cases hb:Nat.beq n 0 with
 | true=>
   rw[hb,cond_true]at h;obtain⟨h2,h⟩:=bE h;exact⟨_,by simp only[cond_true,h2],h⟩
 | false=>
   rw[hb,cond_false]at h;obtain⟨h2,h⟩:=bE h;obtain⟨h3,h⟩:=c_ h;obtain⟨new,h4,h⟩:=x8 C h;obtain⟨h5,h⟩:=bE h;obtain⟨r,hr,h⟩:=yU C h;have h6:(true&&Nat.beq (bU z).length sz&&Bu sz y)=true:=by rw[Bool.true_and];exact h3
   exact⟨r,by simp only[cond_false,h2,h6,cond_true,h4,h5,hr],h⟩
theorem HQ{t:TypeId}{d:AV}{K:AV×aC->Tr R}{s:R}(h:(OQ P C o t d x K).run=some s):∃r,Ai P C o t d x=some r/\(K r).run=some s:=by
 obtain⟨e,he,h⟩:=ar h;obtain⟨h1,h⟩:=c_ h;obtain⟨sz,hs,h⟩:=ar h;obtain⟨dl,hd,h⟩:=ar h;obtain⟨sl,hsl,h⟩:=ar h;have h:=nW h;obtain⟨cs,hc,h⟩:=x8 C h;simp only[Ai,he,ob,h1,ok,cond_true,hs,hd,hsl,Lk,hc];unfold GI at h;unfold sK;split at h
 . exact⟨_,by simp only[jm],h⟩
 . obtain⟨h2,h⟩:=bE h;obtain⟨o',ho,h⟩:=yM C h;exact⟨_,by simp only[h2,ok,cond_true,ho,ob,jm],h⟩
 . cases h
theorem AP{b:Builtin}{ts:List TypeId}{K:AV×aC->Tr R}{s:R}(h:(xm P C o b ts args K).run=some s):∃r,fU P C o b ts args=some r/\(K r).run=some s:=by
 unfold xm at h;split at h
 . split at h
   . obtain⟨t,ht,h⟩:=ar h;obtain⟨v,hv,h⟩:=HK h;exact⟨_,by simp only[fU,ht,ob,one,hv,gP],h⟩
   . cases h
 . split at h
   . obtain⟨t,ht,h⟩:=ar h;obtain⟨v,hv,h⟩:=G5 h;exact⟨_,by simp only[fU,ht,ob,one,hv,gP],h⟩
   . cases h
 . split at h
   . obtain⟨t,ht,h⟩:=ar h;obtain⟨u,hu,h⟩:=ar h;obtain⟨r,hr,h⟩:=Ch P C h;exact⟨r,by simp only[fU,ht,ob,hu,two,hr],h⟩
   . cases h
 . split at h
   . obtain⟨t,ht,h⟩:=ar h;obtain⟨r,hr,h⟩:=HQ P C h;exact⟨r,by simp only[fU,ht,ob,two,hr],h⟩
   . cases h
 . exact ar h
def I4(vs:List AV)(o:aC)(f:AV)(K:AV×aC->Tr R):Tr R:=match f with
 | .func f first captured=>call C f (first++vs++captured) o K
 | _=>.fail
def KC(ρ:Operand->Option AV)(o:aC)(c:Call)(K:AV×aC->Tr R):Tr R:=match c.callee with
 | .value f=>aU (ρ f) λfv=>aU (gx ρ c.args.toList) λvs=>I4 call C vs o fv K
 | .builtin b=>aU (gx ρ c.args.toList) λvs=>xm P C o b c.argTypes.toList vs K
 | _=>.fail
def Ad(ρ:Operand->Option AV)(o:aC)(op:Op)(K:AV×aC->Tr R):Tr R:=match op with
 | .call c=>KC P call C ρ o c K
 | op=>Ea op P C ρ o K
def Bj(ops:Array Oper)(ts:Ts)(g:Option (Nat×Bool))(K:Bool->Tr R):Tr R:=match g with
 | none=>K true
 | g=>.test (eE ops ts g) K
def EK(ops:Array Oper):List Oper->St->(St->Tr R)->Tr R
 | [],st,K=>K st
 | op::rest,st,K=>Bj ops st.ts op.guard λw=>
   bif w then Ad P call C (e9 cfg.G st.ts) st.o op.op λr=>aU (jx st r.1 r.2 op.dst) λst'=>EK ops rest st' K
   else aU (jx st bo st.o op.dst) λst'=>EK ops rest st' K
def ya(ops:Array Oper):Nat->List Oper->St->List (Nat×gk)->(St×List (Nat×gk)->Tr R)->Tr R
 | _,[],st,log,K=>K (st,log)
 | i,op::rest,st,log,K=>Bj ops st.ts op.guard λw=>
   bif w then Ad P call C (e9 cfg.G st.ts) st.o op.op λr=>aU (jx st r.1 r.2 op.dst) λst'=>
    bif xJ (C.lo+st.o.n) (cW cfg (e9 cfg.G st.ts) op.op)then ya ops (i+1) rest st' ((i,cW cfg (e9 cfg.G st.ts) op.op)::log) K else .fail
   else aU (jx st bo st.o op.dst) λst'=>ya ops (i+1) rest st' ((i,.none)::log) K
def wm(callI:CI R)(ops:Array Oper)(draw:Bool)(st:St)(K:St->Tr R):Tr R:=
 bif draw then aU (Gf ops) λacc=>ya P cfg call C ops 0 ops.toList st [] λr=>bif sN ops acc r.2 r.2 then K r.1 else .fail
 else EK P cfg callI C ops ops.toList st K
end
section
variable(P:fb)(cfg:cG)(orcT:yW)
def Be(code:nH R)(C:bg)(fn:Func)(c:Code)(args:List AV)(o:aC)(K:AV×aC->Tr R):Tr R:=
 bif Nat.ble args.length 1000 then code C c (jH fn args o) λx=>aU (vJ P C fn x) K else .fail
def Ld(inl:Bool)(code:nH R)(C:bg)(f:FuncId)(args:List AV)(o:aC)(K:AV×aC->Tr R):Tr R:=
 aU (bh P f) λfc=>bif cfg.canon f&&bw cfg.root.n args then
  Be P code ⟨[(0,cfg.root)],cfg.root.n⟩ fc.1 fc.2 args ⟨0,[],[]⟩ λr=>bif hJ cfg.root.n 20 r.1 then K (r.1,o)else .fail
  else bif inl&&Cx args then .fail
  else Be P code ⟨(C.lo,o)::C.B,C.lo+o.n⟩ fc.1 fc.2 args ⟨0,[],gC C o (dw args (cfg.lend f))⟩ λr=>K (A9 C o (gC C o (dw args (cfg.lend f))) r)
def rC(inl:Bool)(code:nH R)(C:bg)(f:FuncId)(args:List AV)(o:aC)(K:AV×aC->Tr R):Tr R:=match orcT f C args o with
 | some t=>t.bind K
 | none=>Ld P cfg inl code C f args o K
def rf(f:St->(AX×St->Tr R)->Tr R)(x:AX×St)(K:AX×St->Tr R):Tr R:=match x.1 with
 | .normal=>f x.2 K
 | _=>K x
def B9(f:Code->Tr R)(a b:Code)(v:AV):Tr R:=match v with
 | .bool d=>.test d λe=>bif e then f a else f b
 | _=>.fail
end
abbrev kj(R:Type):Type:=fb->cG->yW->nH R->bg->St->(AX×St->Tr R)->Tr R
def Ow:kj R:=λ_ _ _ _ _ st K=>K (.normal,st)
def Xu(a b:Code):kj R:=λ_ _ _ code C st K=>code C a st λx=>rf (code C b) x K
def TD(c:Operand)(a b:Code):kj R:=λ_ cfg _ code C st K=>aU (e9 cfg.G st.ts c) (B9 (λc=>code C c st K) a b)
def Pn(id:Nat)(b:Code):kj R:=λ_ _ _ code C st K=>code C b st λr=>K (lx id r)
def Uo(b:Code):kj R:=λ_ _ _ code C st K=>code C b st λx=>rf (code C (.loop b)) x K
def Q5(b:Code):kj R:=λ_ _ _ code C st K=>code C b st K
def T_(id:Nat):kj R:=λ_ _ _ _ _ st K=>K (.exit id,st)
def YU:kj R:=λ_ _ _ _ _ st K=>K (.ret,st)
def Nv(ops:Array Oper)(draw:Bool):kj R:=λP cfg orcT code C st K=>wm P cfg (rC P cfg orcT false code) C (rC P cfg orcT true code) ops draw st λst'=>K (.normal,st')
def Vb:kj R:=λ_ _ _ _ _ _ _=>.fail
def CX:Code->kj R
 | .skip=>Ow
 | .label _=>Ow
 | .seq a b=>Xu a b
 | .cond c a b=>TD c a b
 | .block id b=>Pn id b
 | .loop b=>Uo b
 | .scope b=>Q5 b
 | .exit id=>T_ id
 | .ret=>YU
 | .region _ ops draw=>Nv ops draw
 | _=>Vb
def rV(P:fb)(cfg:cG)(orcT:yW):Nat->nH R
 | 0,_,_,_,_=>.fail
 | n+1,C,c,st,K=>CX c P cfg orcT (rV P cfg orcT n) C st K
def AL(rV:nH R)(eT:bg->Code->St->Option (AX×St)):Prop:=∀C c st K s,(rV C c st K).run=some s->∃x,eT C c st=some x/\(K x).run=some s
def By(rC:CI R)(kN:bg->FuncId->List AV->aC->Option (AV×aC)):Prop:=∀C f args o K s,(rC C f args o K).run=some s->∃x,kN C f args o=some x/\(K x).run=some s
section
variable{P:fb}{cfg:cG}{call:CI R}{callA':bg->FuncId->List AV->aC->Option (AV×aC)}(hc:By call callA'){rnd:bg->Nat->List AV->aC->Option (AV×aC)}{C:bg}
include hc
theorem zq{ρ:Operand->Option AV}{op:Op}{K:AV×aC->Tr R}{s:R}(h:(Ad P call C ρ o op K).run=some s):∃r,gM P callA' rnd C ρ o op=some r/\(K r).run=some s:=by
 unfold Ad at h;unfold gM;split at h
 . rename_i c;simp only;unfold KC at h;unfold rq;cases hcal:c.callee with
   | value f=>
     simp only[hcal]at h ⊢;obtain⟨fv,hf,h⟩:=ar h;obtain⟨vs,hvs,h⟩:=ar h;simp only[hf,hvs,ob];unfold I4 at h;cases fv<;>simp only at h<;>first|(cases h;done)|skip
     exact hc _ _ _ _ _ _ h
   | builtin b=>
     simp only[hcal]at h ⊢;obtain⟨vs,hvs,h⟩:=ar h;simp only[hvs,ob];exact AP P C h
   | invoke x n=>simp only[hcal]at h;cases h
 . rename_i hne;obtain⟨r,hr,hk⟩:=Na h;refine⟨r,?_,hk⟩;split
   . grind
   . exact hr
theorem xa{ops:Array Oper}:∀{l:List Oper} {st:St} {K:St->Tr R} {s:R},(EK P cfg call C ops l st K).run=some s->∃st',BZ P cfg callA' rnd C ops l st=some st'/\(K st').run=some s
 | [],st,K,s,h=>⟨st,rfl,h⟩
 | op::rest,st,K,s,h=>by
   have h:(bif eE ops st.ts op.guard then Ad P call C (e9 cfg.G st.ts) st.o op.op λr=>aU (jx st r.1 r.2 op.dst) λst'=>EK P cfg call C ops rest st' K
    else aU (jx st bo st.o op.dst) λst'=>EK P cfg call C ops rest st' K).run=some s:=by
    unfold EK Bj at h;split at h
    . rename_i hg;rw[hg];exact h
    . exact h
   simp only[BZ];cases hw:eE ops st.ts op.guard with
   | true=>
     rw[hw,cond_true]at h;rw[cond_true];obtain⟨r,hr,h⟩:=zq (rnd:=rnd) hc h;obtain⟨st1,hp,h⟩:=ar h;obtain⟨st2,h2,h⟩:=xa h;exact⟨st2,by simp only[hr,ob,hp];exact h2,h⟩
   | false=>
     rw[hw,cond_false]at h;rw[cond_false];obtain⟨st1,hp,h⟩:=ar h;obtain⟨st2,h2,h⟩:=xa h;exact⟨st2,by simp only[ob,hp];exact h2,h⟩
theorem sU{ops:Array Oper}:∀{l:List Oper} {i:Nat} {st:St} {log:List (Nat×gk)} {K:St×List (Nat×gk)->Tr R} {s:R},(ya P cfg call C ops i l st log K).run=some s->∃r,p6 P cfg callA' C ops i l st log=some r/\(K r).run=some s
 | [],i,st,log,K,s,h=>⟨_,rfl,h⟩
 | op::rest,i,st,log,K,s,h=>by
   have h:(bif eE ops st.ts op.guard then Ad P call C (e9 cfg.G st.ts) st.o op.op λr=>aU (jx st r.1 r.2 op.dst) λst'=>
    bif xJ (C.lo+st.o.n) (cW cfg (e9 cfg.G st.ts) op.op)then ya P cfg call C ops (i+1) rest st' ((i,cW cfg (e9 cfg.G st.ts) op.op)::log) K else .fail
    else aU (jx st bo st.o op.dst) λst'=>ya P cfg call C ops (i+1) rest st' ((i,.none)::log) K).run=some s:=by
    unfold ya Bj at h;split at h
    . rename_i hg;rw[hg];exact h
    . exact h
   unfold p6;cases hw:eE ops st.ts op.guard with
   | true=>
     rw[hw,cond_true]at h;rw[cond_true];obtain⟨r,hr,h⟩:=zq (rnd:=sY) hc h;obtain⟨st1,hp,h⟩:=ar h;obtain⟨hf,h⟩:=c_ h;obtain⟨r2,h2,h⟩:=sU h;exact⟨r2,by simp only[hr,ob,hp,ok,hf,cond_true];exact h2,h⟩
   | false=>
     rw[hw,cond_false]at h;rw[cond_false];obtain⟨st1,hp,h⟩:=ar h;obtain⟨r2,h2,h⟩:=sU h;exact⟨r2,by simp only[ob,hp];exact h2,h⟩
theorem vB{callI:CI R}{callI':bg->FuncId->List AV->aC->Option (AV×aC)}(hcI:By callI callI'){ops:Array Oper}{draw:Bool}{st:St}{K:St->Tr R}{s:R}(h:(wm P cfg call C callI ops draw st K).run=some s) :
 ∃st',j8 P cfg callA' rnd C callI' ops draw st=some st'/\(K st').run=some s:=by
 unfold wm at h;unfold j8;cases draw with
 | true=>
   rw[cond_true]at h;rw[cond_true];obtain⟨acc,ha,h⟩:=ar h;obtain⟨r,hr,h⟩:=sU hc h;obtain⟨h1,h2⟩:=c_ h;exact⟨r.1,by simp only[ha,ob,hr,ok,h1,cond_true],h2⟩
 | false=>
   rw[cond_false]at h;rw[cond_false];exact xa hcI h
end
section
variable{P:fb}{cfg:cG}{orcT:yW}(ho:A2 cfg orcT)
theorem qs{code:nH R}{codeA':bg->Code->St->Option (AX×St)}(hcode:AL code codeA'){C:bg}{fn:Func}{c:Code}{K:AV×aC->Tr R}{s:R}(h:(Be P code C fn c args o K).run=some s) :
 ∃r,lq P codeA' C fn c args o=some r/\(K r).run=some s:=by
 obtain⟨h1,h2⟩:=c_ h;obtain⟨x,hx,h3⟩:=hcode _ _ _ _ _ h2;obtain⟨r,hr,h4⟩:=ar h3;exact⟨r,by simp only[lq,h1,ok,cond_true,hx,ob];exact hr,h4⟩
include ho
theorem lQ{code:nH R}{codeA':bg->Code->St->Option (AX×St)}(hcode:AL code codeA'){inl:Bool}:By (rC P cfg orcT inl code) (kN P cfg inl codeA'):=by
 intro C f args o K s h;unfold rC at h;unfold kN;cases hx:orcT f C args o with
 | some t=>
   rw[hx]at h;obtain⟨r,hr,h⟩:=Tr.run_bind h;exact⟨r,by rw[ho.some' hx hr],h⟩
 | none=>
   rw[hx]at h;rw[ho.none' hx];simp only;unfold Ld at h;obtain⟨fc,hb,h⟩:=ar h;simp only[BV,hb,ob];cases hcn:(cfg.canon f&&bw cfg.root.n args)with
   | true=>
     rw[hcn,cond_true]at h;rw[cond_true];obtain⟨r,hr,h⟩:=qs hcode h;obtain⟨h1,h2⟩:=c_ h;exact⟨_,by simp only[z_,hr,ob,ok,h1,cond_true],h2⟩
   | false=>
     rw[hcn,cond_false]at h;rw[cond_false];simp only[CZ];cases hy:(inl&&Cx args)with
     | true=>rw[hy]at h;cases h
     | false=>
       rw[hy,cond_false]at h;rw[cond_false];obtain⟨r,hr,h⟩:=qs hcode h;exact⟨_,by simp only[zD,hr,ob],h⟩
theorem zw{f:St->(AX×St->Tr R)->Tr R}{g:St->Option (AX×St)}(hf:∀st K s,(f st K).run=some s->∃x,g st=some x/\(K x).run=some s){x:AX×St}{K:AX×St->Tr R}{s:R}(h:(rf f x K).run=some s) :
 ∃y,tM g x=some y/\(K y).run=some s:=by
 unfold rf at h;unfold tM;cases hx:x.1<;>rw[hx]at h<;>simp only at h ⊢
 . grind
 . grind
 . grind
theorem lH:∀n,AL (R:=R) (rV P cfg orcT n) (eT P cfg n)
 | 0,C,c,st,K,s,h=>by cases h
 | n+1,C,c,st,K,s,h=>by
   have ih:=lH n;unfold rV at h;unfold eT;cases c<;>simp only[CX,fJ]at h ⊢
   case skip=>exact⟨_,rfl,h⟩
   case label=>exact⟨_,rfl,h⟩
   case exit=>exact⟨_,rfl,h⟩
   case ret=>exact⟨_,rfl,h⟩
   case seq a b=>
    obtain⟨x,hx,h⟩:=ih _ _ _ _ _ h;obtain⟨y,hy,h⟩:=zw ho (λst K s=>ih C b st K s) h;exact⟨y,by simp only[Mg,hx,ob];exact hy,h⟩
   case cond c a b=>
    obtain⟨v,hv,h⟩:=ar h;unfold B9 at h;cases v<;>simp only at h<;>first|(cases h;done)|skip
    rename_i d;simp only[Tr.run]at h;simp only[E3,hv,ob];cases d with
    | true=>exact ih _ _ _ _ _ h
    | false=>exact ih _ _ _ _ _ h
   case block id b=>
    obtain⟨x,hx,h⟩:=ih _ _ _ _ _ h;exact⟨_,by simp only[AI,hx,ob],h⟩
   case loop b=>
    obtain⟨x,hx,h⟩:=ih _ _ _ _ _ h;obtain⟨y,hy,h⟩:=zw ho (λst K s=>ih C (.loop b) st K s) h;exact⟨y,by simp only[Fv,hx,ob];exact hy,h⟩
   case scope b=>exact ih _ _ _ _ _ h
   case region id ops draw=>
    obtain⟨st',hs,h⟩:=vB (rnd:=qa (eT P cfg n)) (lQ ho ih) (lQ ho ih) h;exact⟨_,by simp only[ry,hs,ob],h⟩
   all_goals cases h
end
end
abbrev Ha:Type:=bg->List AV->aC->Option (Tr (AV×aC))
abbrev aR:Type:=FuncId->Option Ha
abbrev dJ:Type:=List AV->Option (Tr AV)
def YZ(o:aC)(v:AV):Tr (AV×aC):=.ret (v,o)
def Vv(o:aC):Option (Tr AV)->Option (Tr (AV×aC))
 | some t=>some (t.bind (YZ o))
 | none=>none
def Dx(e:dJ):Ha:=λ_ args o=>Vv o (e args)
def sS(S:aR):yW:=λf C args o=>ob (S f) λe=>e C args o
def Mx:Option (Tr (AV×aC))->Option (AV×aC)
 | some t=>t.run
 | none=>none
def cH(cfg:cG)(S:aR):cG:=⟨cfg.G,cfg.lend,cfg.canon,λf C args o=>Mx (sS S f C args o),cfg.root⟩
theorem mX(cfg:cG)(S:aR):A2 (cH cfg S) (sS S):=
 ⟨λ{f C args o t} h {r} hr=>by show Mx (sS S f C args o)=_;rw[h];exact hr,λ{f C args o} h=>by show Mx (sS S f C args o)=_;rw[h];rfl⟩
def jR(P:Program)(cfg:cG)(f:FuncId)(e:dJ):Prop:=∀args t v,e args=some t->t.run=some v->gF P cfg f args v
def yp(P:Program)(cfg:cG)(f:FuncId)(e:Ha):Prop:=∀C args o t r,e C args o=some t->t.run=some r->
 (∀D m w,dV cfg D m C o w->fN D m args->jX P f (ap m args).toArray w λV w'=>∃D' m',V=aj m' r.1/\db D' m' r.1/\dk cfg C D m o w D' m' r.2 w'/\ni D w D' m' w')/\(o.os.length=o.n->e8 C o r.2 (dw args (cfg.lend f)))
def ak(P:Program)(cfg:cG)(S:aR):Prop:=∀f e,S f=some e->yp P cfg f e
theorem Kq{cfg:cG}{e:dJ}(h:jR P cfg f e):yp P cfg f (Dx e):=by
 intro C args o t r ht hr;unfold Dx at ht;cases hx:e args with
 | none=>rw[hx]at ht;cases ht
 | some t'=>
   rw[hx]at ht;cases ht;obtain⟨v,hv,h2⟩:=Tr.run_bind (t:=t') hr;cases h2;exact⟨λD m w hi hok=>(h args t' v hx hv C D m o w hi hok).mono λV w' ⟨h1,h2,h3,h4⟩=>⟨D,m,h1,h2,h3,h4⟩,λhl=>.refl hl⟩
theorem gF.to{cfg cfg':cG}(hG:cfg'.G=cfg.G)(hr:cfg'.root=cfg.root){v:AV}(h:gF P cfg f args v):gF P cfg' f args v:=by
 intro C D m o w hi hok;exact(h C D m o w (dV.to (cfg:=cfg') (cfg':=cfg) hG.symm hr.symm hi) hok).mono λV w' ⟨h1,h2,h3,h4⟩=>⟨h1,h2,dk.to hG hr h3,h4⟩
structure xF(P:Program)(T:fb)(cfg:cG):Prop where
 tab:fF P T
 mixed:P.follows .mixedOrders=true
 lv:rI cfg
theorem xF.good{cfg:cG}(g:xF P T cfg){S:aR}(hS:ak P cfg S):mE P T (cH cfg S):=by
 have key:∀{f C args o} {r:AV×aC},Mx (sS S f C args o)=some r->∃e t,S f=some e/\e C args o=some t/\t.run=some r:=by
  intro f C args o r h;unfold sS at h;cases hx:(ob (S f) λe=>e C args o)with
  | none=>rw[hx]at h;cases h
  | some t=>
    rw[hx]at h;rw[ai]at hx;obtain⟨e,he,ht⟩:=hx;exact⟨e,t,he,ht,h⟩
 refine⟨g.tab,g.mixed,⟨g.lv.loops,g.lv.G,g.lv.root⟩,λC f args o r h D m w hi hok=>?_,λC f args o r h hl=>?_⟩
 . obtain⟨e,t,he,ht,hr⟩:=key h;exact((hS f e he C args o t r ht hr).1 D m w (dV.to (cfg:=cH cfg S) (cfg':=cfg) rfl rfl hi) hok).mono λV w' ⟨D',m',h1,h2,h3,h4⟩=>⟨D',m',h1,h2,dk.to (cfg:=cfg) (cfg':=cH cfg S) rfl rfl h3,λ_ _=>h4⟩
 . obtain⟨e,t,he,ht,hr⟩:=key h;exact(hS f e he C args o t r ht hr).2 hl
def lO(T:fb)(cfg:cG)(S:aR)(n:Nat)(f:FuncId)(args:List AV):Tr AV:=
 bif bw cfg.root.n args then aU (bh T f) λfc=>Be T (rV T (cH cfg S) (sS S) n) ⟨[(0,cfg.root)],cfg.root.n⟩ fc.1 fc.2 args ⟨0,[],[]⟩ λr=>bif hJ cfg.root.n 20 r.1 then .ret r.1 else .fail
 else .fail
theorem xF.fact{cfg:cG}(g:xF P T cfg){S:aR}(hS:ak P cfg S){v:AV}(h:(lO T cfg S n f args).run=some v):gF P cfg f args v:=by
 have gg:=g.good hS;obtain⟨hb,h⟩:=c_ h;obtain⟨fc,hf,h⟩:=ar h;obtain⟨r,he,h⟩:=qs (lH (mX cfg S) n) h;obtain⟨h1,h2⟩:=c_ h;cases h2;refine gF.to (cfg:=cH cfg S) (cfg':=cfg) rfl rfl λC D m o w hi hok=>?_;exact xK gg.tab gg.lv (rg gg.tab gg.mixed gg.lv gg.orc gg.foot n).1 (pC gg.foot n) hf hb (by simp only[z_,ai,aA,Option.some.injEq];exact⟨r,he,h1,rfl⟩) hi hok
inductive DT where
 | z
 | e (D:DT)
 | b (x y:DT)
 | t (D:DT)
 | f (D:DT)
 | n (j:Nat) (D:DT)
 | o (j:Nat) (x y:DT)
def dtD(c m:Nat)(r:Nat->(DT->Nat->DT)->DT)(k:DT->Nat->DT):DT:=match c with
 | 0=>r m λD=>k (.e D)
 | 1=>k .z m
 | 2=>r m λD=>k (.t D)
 | 3=>r m λD=>k (.f D)
 | 4=>r m λx m=>r m λy=>k (.b x y)
 | 5=>r m λD=>k (.e (.e (.e (.e D))))
 | 6=>r m λD=>k (.e (.e (.e (.e (.e (.e (.e (.e (.e D)))))))))
 | 7=>r m λD=>k (.t (.t (.t D)))
 | _=>r m λD=>k (.f (.f (.f D)))
noncomputable def dtG(f:Nat):Nat->(DT->Nat->DT)->DT:=
 Nat.rec (λ_ _=>.z) (λ_ r n k=>dtD (Nat.mod n 10) (Nat.div n 10) r k) f
noncomputable def bA(n:Nat):DT:=dtG 100000 n λD _=>D
def ask{R:Type}(Q:R->Prop):Tr R->DT->Prop
 | .ret a,_=>Q a
 | .fail,_=>False
 | .test c k,D=>match D with
   | .e D=>ask Q (k c) D
   | .b x y=>(c->ask Q (k true) x)/\(c=false->ask Q (k false) y)
   | .t D=>c/\ask Q (k true) D
   | .f D=>c=false/\ask Q (k false) D
   | _=>False
 | .pickN i k,D=>match D with
   | .e D=>ask Q (k i) D
   | .n j D=>i=j/\ask Q (k j) D
   | .o j x y=>(i=j->ask Q (k j) x)/\(i≠j->ask Q (k i) y)
   | _=>False
 | .all _,_=>False
theorem iv{R:Type}{Q:R->Prop}:∀{t:Tr R} {D:DT},ask Q t D->∃a,t.run=some a/\Q a
 | .ret a,D,h=>⟨a,rfl,h⟩
 | .fail,D,h=>h.elim
 | .test c k,D,h=>by
   unfold ask at h;split at h
   . exact iv (t:=k c) h
   . cases c with
     | true=>exact iv (t:=k true) (h.1 rfl)
     | false=>exact iv (t:=k false) (h.2 rfl)
   . obtain⟨rfl,h⟩:=h;exact iv (t:=k true) h
   . obtain⟨rfl,h⟩:=h;exact iv (t:=k false) h
   . grind
 | .pickN i k,D,h=>by
   unfold ask at h;split at h
   . exact iv (t:=k i) h
   . obtain⟨rfl,h⟩:=h;exact iv (t:=k i) h
   . rename_i j x y;by_cases e:i=j
     . cases e;exact iv (t:=k i) (h.1 rfl)
     . exact iv (t:=k i) (h.2 e)
   . grind
 | .all _,D,h=>h.elim
def fx{R:Type}(Q:R->Prop):Tr R->DT->Prop
 | .ret a,_=>Q a
 | .fail,_=>False
 | .test c k,D=>match D with
   | .e D=>fx Q (k c) D
   | .b x y=>(c->fx Q (k true) x)/\(c=false->fx Q (k false) y)
   | .t D=>c/\fx Q (k true) D
   | .f D=>c=false/\fx Q (k false) D
   | _=>False
 | .pickN i k,D=>match D with
   | .e D=>fx Q (k i) D
   | .n j D=>i=j/\fx Q (k j) D
   | .o j x y=>(i=j->fx Q (k j) x)/\(i≠j->fx Q (k i) y)
   | _=>False
 | .all k,D=>∀J,fx Q (k J) D
theorem bG{R:Type}{Q:R->Prop}:∀{t:Tr R} {D:DT},fx Q t D->t.wp Q
 | .ret a,D,h=>h
 | .fail,D,h=>h.elim
 | .test c k,D,h=>by
   unfold fx at h;split at h
   . exact bG (t:=k c) h
   . cases c with
     | true=>exact bG (t:=k true) (h.1 rfl)
     | false=>exact bG (t:=k false) (h.2 rfl)
   . obtain⟨rfl,h⟩:=h;exact bG (t:=k true) h
   . obtain⟨rfl,h⟩:=h;exact bG (t:=k false) h
   . grind
 | .pickN i k,D,h=>by
   unfold fx at h;split at h
   . exact bG (t:=k i) h
   . obtain⟨rfl,h⟩:=h;exact bG (t:=k i) h
   . rename_i j x y;by_cases e:i=j
     . cases e;exact bG (t:=k i) (h.1 rfl)
     . exact bG (t:=k i) (h.2 e)
   . grind
 | .all k,D,h=>λJ=>bG (t:=k J) (h J)
theorem xF.ask{cfg:cG}(g:xF P T cfg){S:aR}(hS:ak P cfg S){v:AV}{D:DT}(h:Ev.ask (·=v) (lO T cfg S n f args) D):gF P cfg f args v:=by
 obtain⟨a,h1,h2⟩:=iv h;cases h2;exact g.fact hS h1
def gX:aR:=λ_=>none
def fw(S:aR)(f:FuncId)(e:Ha):aR:=λg=>bif Nat.beq g f then some e else S g
def oC(S:aR)(f:FuncId)(e:dJ):aR:=fw S f (Dx e)
theorem aV{cfg:cG}:ak P cfg gX:=λf l h=>by cases h
theorem bm{cfg:cG}{S:aR}{e:Ha}(h:ak P cfg S)(he:yp P cfg f e):ak P cfg (fw S f e):=λg e' hg=>by
 unfold fw at hg;cases hb:Nat.beq g f with
 | true=>
   simp_all
 | false=>rw[hb]at hg;exact h g e' hg
theorem d7{cfg:cG}{S:aR}{e:dJ}(h:ak P cfg S)(he:jR P cfg f e):ak P cfg (oC S f e):=bm h (Kq he)
theorem vx(a b:Int):Int.add a b=a+b:=rfl
theorem JP(a b:Int):Int.sub a b=a-b:=rfl
theorem LA(a b:Int):Int.mul a b=a*b:=rfl
theorem Wu(a b:Int):Int.tdiv a b=a.tdiv b:=rfl
theorem V9(a:Int):Int.neg a = -a:=rfl
theorem Zy:UInt8.ofNat 0=(0:UInt8):=rfl
theorem AA(n:Nat):Int.ofNat n=(n:Int):=rfl
theorem al{a b:Int}:(aa a b=true)=(a=b):=propext po
theorem ay{a b:Int}:(aa a b=false)=(a≠b):=by
 rw[<-Bool.not_eq_true,al]
theorem ao{a b:Int}:(ab a b=true)=(a<=b):=by rw[ea];simp
theorem bY{a b:Int}:(ab a b=false)=(b<a):=by rw[ea];simp
theorem AE{a:Nat}:(aW a b=true)=(a<b):=propext aS
theorem SH{a:Nat}:(aW a b=false)=(b<=a):=by
 rw[<-Bool.not_eq_true,AE];simp
theorem aq{a:Nat}:(Nat.ble a b=true)=(a<=b):=propext bv
theorem At{a:Nat}:(Nat.ble a b=false)=(b<a):=by
 rw[<-Bool.not_eq_true,aq];simp
theorem aK{a:Nat}:(Nat.beq a b=true)=(a=b):=propext cO
theorem cr{a:Nat}:(Nat.beq a b=false)=(a≠b):=by
 rw[<-Bool.not_eq_true,aK]
theorem mr{a:Bool}:(Bool.not a=true)=(a=false):=by cases a<;>simp
theorem FQ{a:Bool}:(Bool.not a=false)=(a=true):=by cases a<;>simp
theorem AZ{a b:Bool}:(Bool.and a b=true)=(a/\b=true):=by cases a<;>cases b<;>simp
theorem M7{a b:Bool}:(Bool.and a b=false)=(a=false\/b=false):=by cases a<;>cases b<;>simp
theorem DG{a b:Bool}:(Bool.or a b=true)=(a\/b=true):=by cases a<;>cases b<;>simp
theorem R0{a b:Bool}:(Bool.or a b=false)=(a=false/\b=false):=by cases a<;>cases b<;>simp
theorem Kg{a:Bool}:(bW a false=true)=(a=false):=by cases a<;>simp[bW]
theorem PI{a:Bool}:(bW a false=false)=(a=true):=by cases a<;>simp[bW]
theorem PH{a:Bool}:(bW a true=true)=(a=true):=by cases a<;>simp[bW]
theorem Q3{a:Bool}:(bW a true=false)=(a=false):=by cases a<;>simp[bW]
theorem aB{k:IntKind}{n:Int}:(ae k n=true)=(dP k<=n/\n<=dR k):=by rw[ae,Bool.and_eq_true,ao,ao]
theorem NG{k:IntKind}{n:Int}:(ae k n=false)=¬(dP k<=n/\n<=dR k):=by rw[<-Bool.not_eq_true,aB]
theorem ON:(∀a b,Int.add a b=a+b)/\(∀a b,Int.sub a b=a-b)/\(∀a b,Int.mul a b=a*b)/\(∀a b,Int.tdiv a b=a.tdiv b)/\(∀a,Int.neg a = -a)/\UInt8.ofNat 0=(0:UInt8)/\(∀n:Nat,Int.ofNat n=(n:Int))/\
 (∀a b,(aa a b=true)=(a=b))/\(∀a b,(aa a b=false)=(a≠b))/\(∀a b,(ab a b=true)=(a<=b))/\(∀a b,(ab a b=false)=(b<a))/\(∀a b,(aW a b=true)=(a<b))/\(∀a b,(aW a b=false)=(b<=a))/\
 (∀a b,(Nat.ble a b=true)=(a<=b))/\(∀a b,(Nat.ble a b=false)=(b<a))/\(∀a b,(Nat.beq a b=true)=(a=b))/\(∀a b,(Nat.beq a b=false)=(a≠b))/\(∀a,(Bool.not a=true)=(a=false))/\(∀a,(Bool.not a=false)=(a=true))/\
 (∀a b,(Bool.and a b=true)=(a/\b=true))/\(∀a b,(Bool.and a b=false)=(a=false\/b=false))/\(∀a b,(Bool.or a b=true)=(a\/b=true))/\(∀a b,(Bool.or a b=false)=(a=false/\b=false))/\
 (∀a,(bW a false=true)=(a=false))/\(∀a,(bW a false=false)=(a=true))/\(∀a,(bW a true=true)=(a=true))/\(∀a,(bW a true=false)=(a=false))/\
 (∀k n,(ae k n=true)=(dP k<=n/\n<=dR k))/\(∀k n,(ae k n=false)=¬(dP k<=n/\n<=dR k))/\(∀p:Prop,(p/\True)=p)/\(∀p:Prop,(p\/False)=p)/\(∀p:Prop,(False\/p)=p)/\((¬True)=False):=
 ⟨vx,JP,LA,Wu,V9,Zy,AA,λ_ _=>al,λ_ _=>ay,λ_ _=>ao,λ_ _=>bY,λ_ _=>AE,λ_ _=>SH,λ_ _=>aq,λ_ _=>At,λ_ _=>aK,λ_ _=>cr,
  λ_=>mr,λ_=>FQ,λ_ _=>AZ,λ_ _=>M7,λ_ _=>DG,λ_ _=>R0,λ_=>Kg,λ_=>PI,λ_=>PH,λ_=>Q3,λ_ _=>aB,λ_ _=>NG,and_true,or_false,false_or,not_true_eq_false⟩
theorem q_k:dP .i8 = -128/\dR .i8=127/\dP .i16 = -32768/\dR .i16=32767/\dP .i32 = -2147483648/\dR .i32=2147483647/\dP .i64 = -9223372036854775808/\dR .i64=9223372036854775807/\dP .u8=0/\dR .u8=255/\dP .u16=0/\dR .u16=65535/\dP .u32=0/\dR .u32=4294967295/\dP .u64=0/\dR .u64=18446744073709551615/\∀(α:Type) (a b:α),(a≠b)=¬a=b:=⟨rfl,rfl,rfl,rfl,rfl,rfl,rfl,rfl,rfl,rfl,rfl,rfl,rfl,rfl,rfl,rfl,λ_ _ _=>rfl⟩
def az:=And.intro ON q_k
theorem qP:(∀k n l m,(AV.int k n=AV.int l m)=(k=l/\n=m))/\(∀a b,(AV.bool a=AV.bool b)=(a=b))/\(∀a b,(AV.agg a=AV.agg b)=(a=b))/\(∀a b,(AV.tuple a=AV.tuple b)=(a=b))/\
 (∀(α:Type) (a b:α) l m,(a::l=b::m)=(a=b/\l=m))/\(∀p,(True/\p)=p)/\(∀p,(p/\True)=p)/\(∀(α:Type) (a:α),(a=a)=True)/\(∀(p:Prop) [Decidable p],(decide p=true)=p)/\(∀(p:Prop) [Decidable p],(decide p=false)=¬p):=
 ⟨AV.int.injEq,AV.bool.injEq,AV.agg.injEq,AV.tuple.injEq,λ_ a b l m=>List.cons.injEq a l b m,true_and,and_true,λ_ _=>eq_self _,λ_=>decide_eq_true_eq,λ_=>propext decide_eq_false_iff_not⟩
end Go.Ev
