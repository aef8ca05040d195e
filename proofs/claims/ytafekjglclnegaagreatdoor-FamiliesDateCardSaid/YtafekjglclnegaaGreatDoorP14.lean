import Derived.Test.YtafekjglclnegaaGreatDoorP13
set_option linter.all false
namespace Go.Ev
open Go
abbrev OrcT:Type:=FuncId->Ctx->List AV->Own->Option (Tr (AV×Own))
structure OrcTOK (cfg:Cfg) (orcT:OrcT):Prop where
 some':∀{f C args o t},orcT f C args o=some t->∀{r},t.run=some r->cfg.orc f C args o=some r
 none':∀{f C args o},orcT f C args o=none->cfg.orc f C args o=none
section
variable {R:Type}
abbrev CallF (R:Type):Type:=Ctx->FuncId->List AV->Own->(AV×Own->Tr R)->Tr R
abbrev CodeK (R:Type):Type:=Ctx->Code->St->(AX×St->Tr R)->Tr R
section
variable (P:Tab) (cfg:Cfg) (call:CallF R) (C:Ctx)
def lenDT (x:AV) (d:Option TypeDesc) (K:AV->Tr R):Tr R:=match d with
 | some .string=>(match x with
   | .str s=>K (.int .i64 (.ofNat s.length))
   | _=>.fail)
 | some (.slice _)=>(match x with
   | .slice _ _ n _=>K (.int .i64 (.ofNat n))
   | .nilslice=>K (.int .i64 0)
   | _=>.fail)
 | some (.array n _)=>K (.int .i64 (.ofNat n))
 | _=>.fail
def capDT (x:AV) (d:Option TypeDesc) (K:AV->Tr R):Tr R:=match d with
 | some (.slice _)=>(match x with
   | .slice _ _ _ (.known n)=>K (.int .i64 (.ofNat n))
   | .nilslice=>K (.int .i64 0)
   | _=>.fail)
 | _=>.fail
def firstT (o:Own) (size n:Nat) (x:AV) (K:List AV->Tr R):Tr R:=match x with
 | .slice id off len _=>asrt (Nat.ble n len) (liftK (cellsOf (get C o id)) fun cs=>takeT cs off (n*size) K)
 | .nilslice=>asrt (Nat.beq n 0) (K [])
 | .str s=>asrt (Nat.ble n s.length) (K ((s.take n).map byteA))
 | _=>.fail
def writeT (o:Own) (id off:Nat) (vs:List AV) (K:Own->Tr R):Tr R:=liftK (own? C o id) fun x=>layT off vs x fun x'=>K (putO C o id x')
def appendToT (o:Own) (size n:Nat) (new:List AV) (s:AV) (K:AV×Own->Tr R):Tr R:=match s with
 | .nilslice=>K (growA C o size n new)
 | .slice id off len c=>(match c with
   | .known c=>.test (Nat.ble (len+n) c) fun b=>bif b then writeT C o id (off+len*size) new fun o'=>K (.slice id off (len+n) (.known c),o')
     else liftK (cellsOf (get C o id)) fun cs=>takeT cs off (len*size) fun old=>K (growA C o size (len+n) (old++new))
   | .rest k=>asrt (Nat.beq off 0&&Nat.beq k 0) (liftK (own? C o id) fun x=>(match x with
     | .cells cs true (some g)=>asrt (Nat.beq g size&&Nat.beq cs.length (len*size)) (K (growA C (putO C o id .dead) size (len+n) (cs++new)))
     | _=>.fail)))
 | _=>.fail
def appendT (o:Own) (sType xType:TypeId) (s x:AV) (K:AV×Own->Tr R):Tr R:=
 liftK (elemT P sType) fun elem=>bif notIntT P xType&&smallT P elem&&isSliceA s then liftK (szOf P elem) fun size=>liftK (zeroA P elem) fun z=>liftK (lenA x) fun n=>liftK (lenA s) fun sl=>
  .test (Nat.beq n 0) fun b=>bif b then asrt (fitsA s) (K (s,o)) else asrt (lenOk sl n size) (bif Nat.beq (cellsA z).length size&&strFits size x then firstT C o size n x fun new=>asrt (allOne new) (appendToT C o size n new s K) else .fail)
 else .fail
def copyToT (o:Own) (n:Nat) (cs:List AV) (d:AV) (K:AV×Own->Tr R):Tr R:=match d with
 | .nilslice=>K (.int .i64 (.ofNat n),o)
 | .slice id off _ _=>asrt (allOne cs) (writeT C o id off cs fun o'=>K (.int .i64 (.ofNat n),o'))
 | _=>.fail
def copyT (o:Own) (dType:TypeId) (d s:AV) (K:AV×Own->Tr R):Tr R:=
 liftK (elemT P dType) fun elem=>bif isSliceA d then liftK (szOf P elem) fun size=>liftK (lenA d) fun dl=>liftK (lenA s) fun sl=>
  eitherT (Nat.ble sl dl) sl dl fun n=>firstT C o size n s fun cs=>copyToT C o n cs d K
 else .fail
def builtinT (o:Own) (b:Builtin) (ts:List TypeId) (args:List AV) (K:AV×Own->Tr R):Tr R:=match b with
 | .len=>(match args with
   | [x]=>liftK ts[0]? fun t=>lenDT x (P.und t) fun v=>K (v,o)
   | _=>.fail)
 | .cap=>(match args with
   | [x]=>liftK ts[0]? fun t=>capDT x (P.und t) fun v=>K (v,o)
   | _=>.fail)
 | .append=>(match args with
   | [s,x]=>liftK ts[0]? fun t=>liftK ts[1]? fun u=>appendT P C o t u s x K
   | _=>.fail)
 | .copy=>(match args with
   | [d,s]=>liftK ts[0]? fun t=>copyT P C o t d s K
   | _=>.fail)
 | b=>liftK (builtinA P C o b ts args) K
theorem goInt_of (n:Nat):goInt n=.int .i64 (.ofNat n):=by cases n<;>rfl
theorem lenDT_run {x:AV} {d:Option TypeDesc} {K:AV->Tr R} {s:R} (h:(lenDT x d K).run=some s):∃v,lenD x d=some v/\(K v).run=some s:=by
 unfold lenDT at h
 unfold lenD
 split at h
 · split at h
   · exact ⟨_,by simp only [goInt_of],h⟩
   · cases h
 · split at h
   · exact ⟨_,by simp only [goInt_of],h⟩
   · exact ⟨_,by simp only [goInt_of];rfl,h⟩
   · cases h
 · exact ⟨_,by simp only [goInt_of],h⟩
 · cases h
theorem capDT_run {x:AV} {d:Option TypeDesc} {K:AV->Tr R} {s:R} (h:(capDT x d K).run=some s):∃v,capD x d=some v/\(K v).run=some s:=by
 unfold capDT at h
 unfold capD
 split at h
 · split at h
   · exact ⟨_,by simp only [goInt_of],h⟩
   · exact ⟨_,by simp only [goInt_of];rfl,h⟩
   · cases h
 · cases h
theorem firstT_run {o:Own} {size n:Nat} {x:AV} {K:List AV->Tr R} {s:R} (h:(firstT C o size n x K).run=some s):∃v,firstA C o size n x=some v/\(K v).run=some s:=by
 unfold firstT at h
 unfold firstA
 split at h
 · obtain ⟨h1,h⟩:=asrt_run h
   obtain ⟨cs,hc,h⟩:=liftK_run h
   obtain ⟨vs,hv,h⟩:=takeT_run h
   exact ⟨vs,by simp only [h1,ok,cond_true,readA,hc,ob,hv],h⟩
 · obtain ⟨h1,h⟩:=asrt_run h
   exact ⟨_,by simp only [h1,ok,cond_true],h⟩
 · obtain ⟨h1,h⟩:=asrt_run h
   exact ⟨_,by simp only [h1,ok,cond_true],h⟩
 · cases h
theorem writeT_run {o:Own} {id off:Nat} {vs:List AV} {K:Own->Tr R} {s:R} (h:(writeT C o id off vs K).run=some s):∃o',writeA C o id off vs=some o'/\(K o').run=some s:=by
 obtain ⟨x,hx,h⟩:=liftK_run h
 obtain ⟨y,hy,h⟩:=layT_run h
 exact ⟨_,by simp only [writeA,hx,ob,hy],h⟩
theorem appendToT_run {o:Own} {size n:Nat} {new:List AV} {x:AV} {K:AV×Own->Tr R} {s:R} (h:(appendToT C o size n new x K).run=some s):∃r,appendTo C o size n new x=some r/\(K r).run=some s:=by
 unfold appendToT at h
 unfold appendTo
 split at h
 · exact ⟨_,rfl,h⟩
 · rename_i id off len c
   simp only
   unfold appendCap
   split at h
   · rename_i c
     simp only [Tr.run] at h
     simp only [appendKnown]
     cases hb:Nat.ble (len+n) c with
     | true=>
       rw [hb,cond_true] at h
       obtain ⟨o',ho,h⟩:=writeT_run C h
       exact ⟨_,by simp only [cond_true,ho,ob],h⟩
     | false=>
       rw [hb,cond_false] at h
       obtain ⟨cs,hc,h⟩:=liftK_run h
       obtain ⟨vs,hv,h⟩:=takeT_run h
       exact ⟨_,by simp only [cond_false,readA,hc,ob,hv],h⟩
   · rename_i k
     obtain ⟨h1,h⟩:=asrt_run h
     obtain ⟨y,hy,h⟩:=liftK_run h
     simp only [appendRest,h1,ok,cond_true,hy,ob]
     split at h
     · obtain ⟨h2,h⟩:=asrt_run h
       exact ⟨_,by simp only [sameGrow,h2,ok,cond_true],h⟩
     · cases h
 · cases h
theorem appendT_run {o:Own} {t u:TypeId} {x y:AV} {K:AV×Own->Tr R} {s:R} (h:(appendT P C o t u x y K).run=some s):∃r,appendA P C o t u x y=some r/\(K r).run=some s:=by
 obtain ⟨e,he,h⟩:=liftK_run h
 obtain ⟨h1,h⟩:=bif_run h
 obtain ⟨sz,hs,h⟩:=liftK_run h
 obtain ⟨z,hz,h⟩:=liftK_run h
 obtain ⟨n,hn,h⟩:=liftK_run h
 obtain ⟨sl,hsl,h⟩:=liftK_run h
 simp only [appendA,he,ob,h1,ok,cond_true,hs,hz,hn,hsl]
 simp only [Tr.run] at h
 cases hb:Nat.beq n 0 with
 | true=>
   rw [hb,cond_true] at h
   obtain ⟨h2,h⟩:=asrt_run h
   exact ⟨_,by simp only [cond_true,h2],h⟩
 | false=>
   rw [hb,cond_false] at h
   obtain ⟨h2,h⟩:=asrt_run h
   obtain ⟨h3,h⟩:=bif_run h
   obtain ⟨new,h4,h⟩:=firstT_run C h
   obtain ⟨h5,h⟩:=asrt_run h
   obtain ⟨r,hr,h⟩:=appendToT_run C h
   have h6:(true&&Nat.beq (cellsA z).length sz&&strFits sz y)=true:=by rw [Bool.true_and];exact h3
   exact ⟨r,by simp only [cond_false,h2,h6,cond_true,h4,h5,hr],h⟩
theorem copyT_run {o:Own} {t:TypeId} {d x:AV} {K:AV×Own->Tr R} {s:R} (h:(copyT P C o t d x K).run=some s):∃r,copyA P C o t d x=some r/\(K r).run=some s:=by
 obtain ⟨e,he,h⟩:=liftK_run h
 obtain ⟨h1,h⟩:=bif_run h
 obtain ⟨sz,hs,h⟩:=liftK_run h
 obtain ⟨dl,hd,h⟩:=liftK_run h
 obtain ⟨sl,hsl,h⟩:=liftK_run h
 have h:=eitherT_run h
 obtain ⟨cs,hc,h⟩:=firstT_run C h
 simp only [copyA,he,ob,h1,ok,cond_true,hs,hd,hsl,minN,hc]
 unfold copyToT at h
 unfold copyTo
 split at h
 · exact ⟨_,by simp only [goInt_of],h⟩
 · obtain ⟨h2,h⟩:=asrt_run h
   obtain ⟨o',ho,h⟩:=writeT_run C h
   exact ⟨_,by simp only [h2,ok,cond_true,ho,ob,goInt_of],h⟩
 · cases h
theorem builtinT_run {o:Own} {b:Builtin} {ts:List TypeId} {args:List AV} {K:AV×Own->Tr R} {s:R} (h:(builtinT P C o b ts args K).run=some s):∃r,builtinA P C o b ts args=some r/\(K r).run=some s:=by
 unfold builtinT at h
 split at h
 · split at h
   · obtain ⟨t,ht,h⟩:=liftK_run h
     obtain ⟨v,hv,h⟩:=lenDT_run h
     exact ⟨_,by simp only [builtinA,ht,ob,one,hv,keep],h⟩
   · cases h
 · split at h
   · obtain ⟨t,ht,h⟩:=liftK_run h
     obtain ⟨v,hv,h⟩:=capDT_run h
     exact ⟨_,by simp only [builtinA,ht,ob,one,hv,keep],h⟩
   · cases h
 · split at h
   · obtain ⟨t,ht,h⟩:=liftK_run h
     obtain ⟨u,hu,h⟩:=liftK_run h
     obtain ⟨r,hr,h⟩:=appendT_run P C h
     exact ⟨r,by simp only [builtinA,ht,ob,hu,two,hr],h⟩
   · cases h
 · split at h
   · obtain ⟨t,ht,h⟩:=liftK_run h
     obtain ⟨r,hr,h⟩:=copyT_run P C h
     exact ⟨r,by simp only [builtinA,ht,ob,two,hr],h⟩
   · cases h
 · exact liftK_run h
def callVT (vs:List AV) (o:Own) (f:AV) (K:AV×Own->Tr R):Tr R:=match f with
 | .func f first captured=>call C f (first++vs++captured) o K
 | _=>.fail
def callCT (ρ:Operand->Option AV) (o:Own) (c:Call) (K:AV×Own->Tr R):Tr R:=match c.callee with
 | .value f=>liftK (ρ f) fun fv=>liftK (mapAll ρ c.args.toList) fun vs=>callVT call C vs o fv K
 | .builtin b=>liftK (mapAll ρ c.args.toList) fun vs=>builtinT P C o b c.argTypes.toList vs K
 | _=>.fail
def stepT (ρ:Operand->Option AV) (o:Own) (op:Op) (K:AV×Own->Tr R):Tr R:=match op with
 | .call c=>callCT P call C ρ o c K
 | op=>opSelT op P C ρ o K
def guardK (ops:Array Oper) (ts:Ts) (g:Option (Nat×Bool)) (K:Bool->Tr R):Tr R:=match g with
 | none=>K true
 | g=>.test (wantedA ops ts g) K
def opsT (ops:Array Oper):List Oper->St->(St->Tr R)->Tr R
 | [],st,K=>K st
 | op::rest,st,K=>guardK ops st.ts op.guard fun w=>
   bif w then stepT P call C (evalA cfg.G st.ts) st.o op.op fun r=>liftK (putA st r.1 r.2 op.dst) fun st'=>opsT ops rest st' K
   else liftK (putA st undefA st.o op.dst) fun st'=>opsT ops rest st' K
def drawT (ops:Array Oper):Nat->List Oper->St->List (Nat×Foot)->(St×List (Nat×Foot)->Tr R)->Tr R
 | _,[],st,log,K=>K (st,log)
 | i,op::rest,st,log,K=>guardK ops st.ts op.guard fun w=>
   bif w then stepT P call C (evalA cfg.G st.ts) st.o op.op fun r=>liftK (putA st r.1 r.2 op.dst) fun st'=>
    bif footLt (C.lo+st.o.n) (footA cfg (evalA cfg.G st.ts) op.op) then drawT ops (i+1) rest st' ((i,footA cfg (evalA cfg.G st.ts) op.op)::log) K else .fail
   else liftK (putA st undefA st.o op.dst) fun st'=>drawT ops (i+1) rest st' ((i,.none)::log) K
def regionT (callI:CallF R) (ops:Array Oper) (draw:Bool) (st:St) (K:St->Tr R):Tr R:=
 bif draw then liftK (statA ops) fun acc=>drawT P cfg call C ops 0 ops.toList st [] fun r=>bif apartE ops acc r.2 r.2 then K r.1 else .fail
 else opsT P cfg callI C ops ops.toList st K
end
section
variable (P:Tab) (cfg:Cfg) (orcT:OrcT)
def enterT (code:CodeK R) (C:Ctx) (fn:Func) (c:Code) (args:List AV) (o:Own) (K:AV×Own->Tr R):Tr R:=
 bif Nat.ble args.length 1000 then code C c (startA fn args o) fun x=>liftK (endA P C fn x) K else .fail
def callFT (inl:Bool) (code:CodeK R) (C:Ctx) (f:FuncId) (args:List AV) (o:Own) (K:AV×Own->Tr R):Tr R:=
 liftK (bodyOf P f) fun fc=>bif cfg.canon f&&belowL cfg.root.n args then
  enterT P code ⟨[(0,cfg.root)],cfg.root.n⟩ fc.1 fc.2 args ⟨0,[],[]⟩ fun r=>bif belowA cfg.root.n 20 r.1 then K (r.1,o) else .fail
  else bif inl&&anyYL args then .fail
  else enterT P code ⟨(C.lo,o)::C.B,C.lo+o.n⟩ fc.1 fc.2 args ⟨0,[],lendA C o (namesAt args (cfg.lend f))⟩ fun r=>K (afterA C o (lendA C o (namesAt args (cfg.lend f))) r)
def callT (inl:Bool) (code:CodeK R) (C:Ctx) (f:FuncId) (args:List AV) (o:Own) (K:AV×Own->Tr R):Tr R:=match orcT f C args o with
 | some t=>t.bind K
 | none=>callFT P cfg inl code C f args o K
def thenT (f:St->(AX×St->Tr R)->Tr R) (x:AX×St) (K:AX×St->Tr R):Tr R:=match x.1 with
 | .normal=>f x.2 K
 | _=>K x
def condT (f:Code->Tr R) (a b:Code) (v:AV):Tr R:=match v with
 | .bool d=>.test d fun e=>bif e then f a else f b
 | _=>.fail
end
abbrev CodeFT (R:Type):Type:=Tab->Cfg->OrcT->CodeK R->Ctx->St->(AX×St->Tr R)->Tr R
def kSkip:CodeFT R:=fun _ _ _ _ _ st K=>K (.normal,st)
def kSeq (a b:Code):CodeFT R:=fun _ _ _ code C st K=>code C a st fun x=>thenT (code C b) x K
def kCond (c:Operand) (a b:Code):CodeFT R:=fun _ cfg _ code C st K=>liftK (evalA cfg.G st.ts c) (condT (fun c=>code C c st K) a b)
def kBlock (id:Nat) (b:Code):CodeFT R:=fun _ _ _ code C st K=>code C b st fun r=>K (leaveA id r)
def kLoop (b:Code):CodeFT R:=fun _ _ _ code C st K=>code C b st fun x=>thenT (code C (.loop b)) x K
def kScope (b:Code):CodeFT R:=fun _ _ _ code C st K=>code C b st K
def kExit (id:Nat):CodeFT R:=fun _ _ _ _ _ st K=>K (.exit id,st)
def kRet:CodeFT R:=fun _ _ _ _ _ st K=>K (.ret,st)
def kRegion (ops:Array Oper) (draw:Bool):CodeFT R:=fun P cfg orcT code C st K=>regionT P cfg (callT P cfg orcT false code) C (callT P cfg orcT true code) ops draw st fun st'=>K (.normal,st')
def kNone:CodeFT R:=fun _ _ _ _ _ _ _=>.fail
def codeSelT:Code->CodeFT R
 | .skip=>kSkip
 | .label _=>kSkip
 | .seq a b=>kSeq a b
 | .cond c a b=>kCond c a b
 | .block id b=>kBlock id b
 | .loop b=>kLoop b
 | .scope b=>kScope b
 | .exit id=>kExit id
 | .ret=>kRet
 | .region _ ops draw=>kRegion ops draw
 | _=>kNone
def codeT (P:Tab) (cfg:Cfg) (orcT:OrcT):Nat->CodeK R
 | 0,_,_,_,_=>.fail
 | n+1,C,c,st,K=>codeSelT c P cfg orcT (codeT P cfg orcT n) C st K
def CodeTOK (codeT:CodeK R) (codeA:Ctx->Code->St->Option (AX×St)):Prop:=∀C c st K s,(codeT C c st K).run=some s->∃x,codeA C c st=some x/\(K x).run=some s
def CallTOK (callT:CallF R) (callA:Ctx->FuncId->List AV->Own->Option (AV×Own)):Prop:=∀C f args o K s,(callT C f args o K).run=some s->∃x,callA C f args o=some x/\(K x).run=some s
section
variable {P:Tab} {cfg:Cfg} {call:CallF R} {callA':Ctx->FuncId->List AV->Own->Option (AV×Own)} (hc:CallTOK call callA') {rnd:Ctx->Nat->List AV->Own->Option (AV×Own)} {C:Ctx}
include hc
theorem stepT_run {ρ:Operand->Option AV} {o:Own} {op:Op} {K:AV×Own->Tr R} {s:R} (h:(stepT P call C ρ o op K).run=some s):∃r,stepA P callA' rnd C ρ o op=some r/\(K r).run=some s:=by
 unfold stepT at h
 unfold stepA
 split at h
 · rename_i c
   simp only
   unfold callCT at h
   unfold callC
   cases hcal:c.callee with
   | value f=>
     simp only [hcal] at h ⊢
     obtain ⟨fv,hf,h⟩:=liftK_run h
     obtain ⟨vs,hvs,h⟩:=liftK_run h
     simp only [hf,hvs,ob]
     unfold callVT at h
     cases fv<;>simp only at h<;>first|(cases h;done)|skip
     exact hc _ _ _ _ _ _ h
   | builtin b=>
     simp only [hcal] at h ⊢
     obtain ⟨vs,hvs,h⟩:=liftK_run h
     simp only [hvs,ob]
     exact builtinT_run P C h
   | invoke x n=>simp only [hcal] at h;cases h
 · rename_i hne
   obtain ⟨r,hr,hk⟩:=opT_run h
   refine ⟨r,?_,hk⟩
   split
   · exact absurd rfl (hne _)
   · exact hr
theorem opsT_run {ops:Array Oper}:∀{l:List Oper} {st:St} {K:St->Tr R} {s:R},(opsT P cfg call C ops l st K).run=some s->∃st',opsA P cfg callA' rnd C ops l st=some st'/\(K st').run=some s
 | [],st,K,s,h=>⟨st,rfl,h⟩
 | op::rest,st,K,s,h=>by
   have h:(bif wantedA ops st.ts op.guard then stepT P call C (evalA cfg.G st.ts) st.o op.op fun r=>liftK (putA st r.1 r.2 op.dst) fun st'=>opsT P cfg call C ops rest st' K
    else liftK (putA st undefA st.o op.dst) fun st'=>opsT P cfg call C ops rest st' K).run=some s:=by
    unfold opsT guardK at h
    split at h
    · rename_i hg;rw [hg];exact h
    · exact h
   simp only [opsA]
   cases hw:wantedA ops st.ts op.guard with
   | true=>
     rw [hw,cond_true] at h
     rw [cond_true]
     obtain ⟨r,hr,h⟩:=stepT_run (rnd:=rnd) hc h
     obtain ⟨st1,hp,h⟩:=liftK_run h
     obtain ⟨st2,h2,h⟩:=opsT_run h
     exact ⟨st2,by simp only [hr,ob,hp];exact h2,h⟩
   | false=>
     rw [hw,cond_false] at h
     rw [cond_false]
     obtain ⟨st1,hp,h⟩:=liftK_run h
     obtain ⟨st2,h2,h⟩:=opsT_run h
     exact ⟨st2,by simp only [ob,hp];exact h2,h⟩
theorem drawT_run {ops:Array Oper}:∀{l:List Oper} {i:Nat} {st:St} {log:List (Nat×Foot)} {K:St×List (Nat×Foot)->Tr R} {s:R},(drawT P cfg call C ops i l st log K).run=some s->∃r,drawA P cfg callA' C ops i l st log=some r/\(K r).run=some s
 | [],i,st,log,K,s,h=>⟨_,rfl,h⟩
 | op::rest,i,st,log,K,s,h=>by
   have h:(bif wantedA ops st.ts op.guard then stepT P call C (evalA cfg.G st.ts) st.o op.op fun r=>liftK (putA st r.1 r.2 op.dst) fun st'=>
    bif footLt (C.lo+st.o.n) (footA cfg (evalA cfg.G st.ts) op.op) then drawT P cfg call C ops (i+1) rest st' ((i,footA cfg (evalA cfg.G st.ts) op.op)::log) K else .fail
    else liftK (putA st undefA st.o op.dst) fun st'=>drawT P cfg call C ops (i+1) rest st' ((i,.none)::log) K).run=some s:=by
    unfold drawT guardK at h
    split at h
    · rename_i hg;rw [hg];exact h
    · exact h
   unfold drawA
   cases hw:wantedA ops st.ts op.guard with
   | true=>
     rw [hw,cond_true] at h
     rw [cond_true]
     obtain ⟨r,hr,h⟩:=stepT_run (rnd:=rnd0) hc h
     obtain ⟨st1,hp,h⟩:=liftK_run h
     obtain ⟨hf,h⟩:=bif_run h
     obtain ⟨r2,h2,h⟩:=drawT_run h
     exact ⟨r2,by simp only [hr,ob,hp,ok,hf,cond_true];exact h2,h⟩
   | false=>
     rw [hw,cond_false] at h
     rw [cond_false]
     obtain ⟨st1,hp,h⟩:=liftK_run h
     obtain ⟨r2,h2,h⟩:=drawT_run h
     exact ⟨r2,by simp only [ob,hp];exact h2,h⟩
theorem regionT_run {callI:CallF R} {callI':Ctx->FuncId->List AV->Own->Option (AV×Own)} (hcI:CallTOK callI callI') {ops:Array Oper} {draw:Bool} {st:St} {K:St->Tr R} {s:R} (h:(regionT P cfg call C callI ops draw st K).run=some s) :
 ∃st',regionA P cfg callA' rnd C callI' ops draw st=some st'/\(K st').run=some s:=by
 unfold regionT at h
 unfold regionA
 cases draw with
 | true=>
   rw [cond_true] at h
   rw [cond_true]
   obtain ⟨acc,ha,h⟩:=liftK_run h
   obtain ⟨r,hr,h⟩:=drawT_run hc h
   obtain ⟨h1,h2⟩:=bif_run h
   exact ⟨r.1,by simp only [ha,ob,hr,ok,h1,cond_true],h2⟩
 | false=>
   rw [cond_false] at h
   rw [cond_false]
   exact opsT_run hcI h
end
section
variable {P:Tab} {cfg:Cfg} {orcT:OrcT} (ho:OrcTOK cfg orcT)
theorem enterT_run {code:CodeK R} {codeA':Ctx->Code->St->Option (AX×St)} (hcode:CodeTOK code codeA') {C:Ctx} {fn:Func} {c:Code} {args:List AV} {o:Own} {K:AV×Own->Tr R} {s:R} (h:(enterT P code C fn c args o K).run=some s) :
 ∃r,enterA P codeA' C fn c args o=some r/\(K r).run=some s:=by
 obtain ⟨h1,h2⟩:=bif_run h
 obtain ⟨x,hx,h3⟩:=hcode _ _ _ _ _ h2
 obtain ⟨r,hr,h4⟩:=liftK_run h3
 exact ⟨r,by simp only [enterA,h1,ok,cond_true,hx,ob];exact hr,h4⟩
include ho
theorem callT_run {code:CodeK R} {codeA':Ctx->Code->St->Option (AX×St)} (hcode:CodeTOK code codeA') {inl:Bool}:CallTOK (callT P cfg orcT inl code) (callA P cfg inl codeA'):=by
 intro C f args o K s h
 unfold callT at h
 unfold callA
 cases hx:orcT f C args o with
 | some t=>
   rw [hx] at h
   obtain ⟨r,hr,h⟩:=Tr.run_bind h
   exact ⟨r,by rw [ho.some' hx hr],h⟩
 | none=>
   rw [hx] at h
   rw [ho.none' hx]
   simp only
   unfold callFT at h
   obtain ⟨fc,hb,h⟩:=liftK_run h
   simp only [callF,hb,ob]
   cases hcn:(cfg.canon f&&belowL cfg.root.n args) with
   | true=>
     rw [hcn,cond_true] at h
     rw [cond_true]
     obtain ⟨r,hr,h⟩:=enterT_run hcode h
     obtain ⟨h1,h2⟩:=bif_run h
     exact ⟨_,by simp only [callP,hr,ob,ok,h1,cond_true],h2⟩
   | false=>
     rw [hcn,cond_false] at h
     rw [cond_false]
     simp only [callL]
     cases hy:(inl&&anyYL args) with
     | true=>rw [hy] at h;cases h
     | false=>
       rw [hy,cond_false] at h
       rw [cond_false]
       obtain ⟨r,hr,h⟩:=enterT_run hcode h
       exact ⟨_,by simp only [callN,hr,ob],h⟩
theorem thenT_run {f:St->(AX×St->Tr R)->Tr R} {g:St->Option (AX×St)} (hf:∀st K s,(f st K).run=some s->∃x,g st=some x/\(K x).run=some s) {x:AX×St} {K:AX×St->Tr R} {s:R} (h:(thenT f x K).run=some s) :
 ∃y,thenA g x=some y/\(K y).run=some s:=by
 unfold thenT at h
 unfold thenA
 cases hx:x.1<;>rw [hx] at h<;>simp only at h ⊢
 · exact hf _ _ _ h
 · exact ⟨_,rfl,h⟩
 · exact ⟨_,rfl,h⟩
theorem codeT_run:∀n,CodeTOK (R:=R) (codeT P cfg orcT n) (codeA P cfg n)
 | 0,C,c,st,K,s,h=>by cases h
 | n+1,C,c,st,K,s,h=>by
   have ih:=codeT_run n
   unfold codeT at h
   unfold codeA
   cases c<;>simp only [codeSelT,codeSel] at h ⊢
   case skip=>exact ⟨_,rfl,h⟩
   case label=>exact ⟨_,rfl,h⟩
   case exit=>exact ⟨_,rfl,h⟩
   case ret=>exact ⟨_,rfl,h⟩
   case seq a b=>
    obtain ⟨x,hx,h⟩:=ih _ _ _ _ _ h
    obtain ⟨y,hy,h⟩:=thenT_run ho (fun st K s=>ih C b st K s) h
    exact ⟨y,by simp only [cSeq,hx,ob];exact hy,h⟩
   case cond c a b=>
    obtain ⟨v,hv,h⟩:=liftK_run h
    unfold condT at h
    cases v<;>simp only at h<;>first|(cases h;done)|skip
    rename_i d
    simp only [Tr.run] at h
    simp only [cCond,hv,ob]
    cases d with
    | true=>exact ih _ _ _ _ _ h
    | false=>exact ih _ _ _ _ _ h
   case block id b=>
    obtain ⟨x,hx,h⟩:=ih _ _ _ _ _ h
    exact ⟨_,by simp only [cBlock,hx,ob],h⟩
   case loop b=>
    obtain ⟨x,hx,h⟩:=ih _ _ _ _ _ h
    obtain ⟨y,hy,h⟩:=thenT_run ho (fun st K s=>ih C (.loop b) st K s) h
    exact ⟨y,by simp only [cLoop,hx,ob];exact hy,h⟩
   case scope b=>exact ih _ _ _ _ _ h
   case region id ops draw=>
    obtain ⟨st',hs,h⟩:=regionT_run (rnd:=roundA (codeA P cfg n)) (callT_run ho ih) (callT_run ho ih) h
    exact ⟨_,by simp only [cRegion,hs,ob],h⟩
   all_goals cases h
end
end
abbrev GSum:Type:=Ctx->List AV->Own->Option (Tr (AV×Own))
abbrev Sums:Type:=FuncId->Option GSum
abbrev Sum:Type:=List AV->Option (Tr AV)
def retO (o:Own) (v:AV):Tr (AV×Own):=.ret (v,o)
def bindO (o:Own):Option (Tr AV)->Option (Tr (AV×Own))
 | some t=>some (t.bind (retO o))
 | none=>none
def plainS (e:Sum):GSum:=fun _ args o=>bindO o (e args)
def orcS (S:Sums):OrcT:=fun f C args o=>ob (S f) fun e=>e C args o
def runO:Option (Tr (AV×Own))->Option (AV×Own)
 | some t=>t.run
 | none=>none
def cfgS (cfg:Cfg) (S:Sums):Cfg:=⟨cfg.G,cfg.lend,cfg.canon,fun f C args o=>runO (orcS S f C args o),cfg.root⟩
theorem orcS_ok (cfg:Cfg) (S:Sums):OrcTOK (cfgS cfg S) (orcS S):=
 ⟨fun {f C args o t} h {r} hr=>by show runO (orcS S f C args o)=_;rw [h];exact hr,fun {f C args o} h=>by show runO (orcS S f C args o)=_;rw [h];rfl⟩
def SumOK (P:Program) (cfg:Cfg) (f:FuncId) (e:Sum):Prop:=∀args t v,e args=some t->t.run=some v->Fact P cfg f args v
def GSumOK (P:Program) (cfg:Cfg) (f:FuncId) (e:GSum):Prop:=∀C args o t r,e C args o=some t->t.run=some r->
 (∀D m w,Inv cfg D m C o w->okL D m args->CallS P f (concL m args).toArray w fun V w'=>∃D' m',V=conc m' r.1/\okV D' m' r.1/\Ext cfg C D m o w D' m' r.2 w'/\Mute D w D' m' w')/\(o.os.length=o.n->StepF C o r.2 (namesAt args (cfg.lend f)))
def SumsOK (P:Program) (cfg:Cfg) (S:Sums):Prop:=∀f e,S f=some e->GSumOK P cfg f e
theorem plain_ok {P:Program} {cfg:Cfg} {f:FuncId} {e:Sum} (h:SumOK P cfg f e):GSumOK P cfg f (plainS e):=by
 intro C args o t r ht hr
 unfold plainS at ht
 cases hx:e args with
 | none=>rw [hx] at ht;cases ht
 | some t'=>
   rw [hx] at ht
   cases ht
   obtain ⟨v,hv,h2⟩:=Tr.run_bind (t:=t') hr
   cases h2
   exact ⟨fun D m w hi hok=>(h args t' v hx hv C D m o w hi hok).mono fun V w' ⟨h1,h2,h3,h4⟩=>⟨D,m,h1,h2,h3,h4⟩,fun hl=>.refl hl⟩
theorem Fact.to {P:Program} {cfg cfg':Cfg} (hG:cfg'.G=cfg.G) (hr:cfg'.root=cfg.root) {f:FuncId} {args:List AV} {v:AV} (h:Fact P cfg f args v):Fact P cfg' f args v:=by
 intro C D m o w hi hok
 exact (h C D m o w (Inv.to (cfg:=cfg') (cfg':=cfg) hG.symm hr.symm hi) hok).mono fun V w' ⟨h1,h2,h3,h4⟩=>⟨h1,h2,Ext.to hG hr h3,h4⟩
structure Base (P:Program) (T:Tab) (cfg:Cfg):Prop where
 tab:TabOK P T
 mixed:P.follows .mixedOrders=true
 lv:CfgOK cfg
theorem Base.good {P:Program} {T:Tab} {cfg:Cfg} (g:Base P T cfg) {S:Sums} (hS:SumsOK P cfg S):Good P T (cfgS cfg S):=by
 have key:∀{f C args o} {r:AV×Own},runO (orcS S f C args o)=some r->∃e t,S f=some e/\e C args o=some t/\t.run=some r:=by
  intro f C args o r h
  unfold orcS at h
  cases hx:(ob (S f) fun e=>e C args o) with
  | none=>rw [hx] at h;cases h
  | some t=>
    rw [hx] at h
    rw [ob_some] at hx
    obtain ⟨e,he,ht⟩:=hx
    exact ⟨e,t,he,ht,h⟩
 refine ⟨g.tab,g.mixed,⟨g.lv.loops,g.lv.G,g.lv.root⟩,fun C f args o r h D m w hi hok=>?_,fun C f args o r h hl=>?_⟩
 · obtain ⟨e,t,he,ht,hr⟩:=key h
   exact ((hS f e he C args o t r ht hr).1 D m w (Inv.to (cfg:=cfgS cfg S) (cfg':=cfg) rfl rfl hi) hok).mono fun V w' ⟨D',m',h1,h2,h3,h4⟩=>⟨D',m',h1,h2,Ext.to (cfg:=cfg) (cfg':=cfgS cfg S) rfl rfl h3,fun _ _=>h4⟩
 · obtain ⟨e,t,he,ht,hr⟩:=key h
   exact (hS f e he C args o t r ht hr).2 hl
def bodyT (T:Tab) (cfg:Cfg) (S:Sums) (n:Nat) (f:FuncId) (args:List AV):Tr AV:=
 bif belowL cfg.root.n args then liftK (bodyOf T f) fun fc=>enterT T (codeT T (cfgS cfg S) (orcS S) n) ⟨[(0,cfg.root)],cfg.root.n⟩ fc.1 fc.2 args ⟨0,[],[]⟩ fun r=>bif belowA cfg.root.n 20 r.1 then .ret r.1 else .fail
 else .fail
theorem Base.fact {P:Program} {T:Tab} {cfg:Cfg} (g:Base P T cfg) {S:Sums} (hS:SumsOK P cfg S) {n:Nat} {f:FuncId} {args:List AV} {v:AV} (h:(bodyT T cfg S n f args).run=some v):Fact P cfg f args v:=by
 have gg:=g.good hS
 obtain ⟨hb,h⟩:=bif_run h
 obtain ⟨fc,hf,h⟩:=liftK_run h
 obtain ⟨r,he,h⟩:=enterT_run (codeT_run (orcS_ok cfg S) n) h
 obtain ⟨h1,h2⟩:=bif_run h
 cases h2
 refine Fact.to (cfg:=cfgS cfg S) (cfg':=cfg) rfl rfl fun C D m o w hi hok=>?_
 exact callP_ok gg.tab gg.lv (code_ok gg.tab gg.mixed gg.lv gg.orc gg.foot n).1 (code_ll gg.foot n) hf hb (by simp only [callP,ob_some,ok_some,Option.some.injEq];exact ⟨r,he,h1,rfl⟩) hi hok
inductive DT where
 | z
 | e (D:DT)
 | b (x y:DT)
 | t (D:DT)
 | f (D:DT)
 | n (j:Nat) (D:DT)
 | o (j:Nat) (x y:DT)
def dtD (c m:Nat) (r:Nat->(DT->Nat->DT)->DT) (k:DT->Nat->DT):DT:=match c with
 | 0=>r m fun D=>k (.e D)
 | 1=>k .z m
 | 2=>r m fun D=>k (.t D)
 | 3=>r m fun D=>k (.f D)
 | 4=>r m fun x m=>r m fun y=>k (.b x y)
 | 5=>r m fun D=>k (.e (.e (.e (.e D))))
 | 6=>r m fun D=>k (.e (.e (.e (.e (.e (.e (.e (.e (.e D)))))))))
 | 7=>r m fun D=>k (.t (.t (.t D)))
 | _=>r m fun D=>k (.f (.f (.f D)))
noncomputable def dtG (f:Nat):Nat->(DT->Nat->DT)->DT:=
 Nat.rec (fun _ _=>.z) (fun _ r n k=>dtD (Nat.mod n 10) (Nat.div n 10) r k) f
noncomputable def dtN (n:Nat):DT:=dtG 100000 n fun D _=>D
def ask {R:Type} (Q:R->Prop):Tr R->DT->Prop
 | .ret a,_=>Q a
 | .fail,_=>False
 | .test c k,D=>match D with
   | .e D=>ask Q (k c) D
   | .b x y=>(c=true->ask Q (k true) x)/\(c=false->ask Q (k false) y)
   | .t D=>c=true/\ask Q (k true) D
   | .f D=>c=false/\ask Q (k false) D
   | _=>False
 | .pickN i k,D=>match D with
   | .e D=>ask Q (k i) D
   | .n j D=>i=j/\ask Q (k j) D
   | .o j x y=>(i=j->ask Q (k j) x)/\(i≠j->ask Q (k i) y)
   | _=>False
 | .all _,_=>False
theorem ask_run {R:Type} {Q:R->Prop}:∀{t:Tr R} {D:DT},ask Q t D->∃a,t.run=some a/\Q a
 | .ret a,D,h=>⟨a,rfl,h⟩
 | .fail,D,h=>h.elim
 | .test c k,D,h=>by
   unfold ask at h
   split at h
   · exact ask_run (t:=k c) h
   · cases c with
     | true=>exact ask_run (t:=k true) (h.1 rfl)
     | false=>exact ask_run (t:=k false) (h.2 rfl)
   · obtain ⟨rfl,h⟩:=h;exact ask_run (t:=k true) h
   · obtain ⟨rfl,h⟩:=h;exact ask_run (t:=k false) h
   · exact h.elim
 | .pickN i k,D,h=>by
   unfold ask at h
   split at h
   · exact ask_run (t:=k i) h
   · obtain ⟨rfl,h⟩:=h;exact ask_run (t:=k i) h
   · rename_i j x y
     by_cases e:i=j
     · cases e;exact ask_run (t:=k i) (h.1 rfl)
     · exact ask_run (t:=k i) (h.2 e)
   · exact h.elim
 | .all _,D,h=>h.elim
def askA {R:Type} (Q:R->Prop):Tr R->DT->Prop
 | .ret a,_=>Q a
 | .fail,_=>False
 | .test c k,D=>match D with
   | .e D=>askA Q (k c) D
   | .b x y=>(c=true->askA Q (k true) x)/\(c=false->askA Q (k false) y)
   | .t D=>c=true/\askA Q (k true) D
   | .f D=>c=false/\askA Q (k false) D
   | _=>False
 | .pickN i k,D=>match D with
   | .e D=>askA Q (k i) D
   | .n j D=>i=j/\askA Q (k j) D
   | .o j x y=>(i=j->askA Q (k j) x)/\(i≠j->askA Q (k i) y)
   | _=>False
 | .all k,D=>∀J,askA Q (k J) D
theorem askA_wp {R:Type} {Q:R->Prop}:∀{t:Tr R} {D:DT},askA Q t D->t.wp Q
 | .ret a,D,h=>h
 | .fail,D,h=>h.elim
 | .test c k,D,h=>by
   unfold askA at h
   split at h
   · exact askA_wp (t:=k c) h
   · cases c with
     | true=>exact askA_wp (t:=k true) (h.1 rfl)
     | false=>exact askA_wp (t:=k false) (h.2 rfl)
   · obtain ⟨rfl,h⟩:=h;exact askA_wp (t:=k true) h
   · obtain ⟨rfl,h⟩:=h;exact askA_wp (t:=k false) h
   · exact h.elim
 | .pickN i k,D,h=>by
   unfold askA at h
   split at h
   · exact askA_wp (t:=k i) h
   · obtain ⟨rfl,h⟩:=h;exact askA_wp (t:=k i) h
   · rename_i j x y
     by_cases e:i=j
     · cases e;exact askA_wp (t:=k i) (h.1 rfl)
     · exact askA_wp (t:=k i) (h.2 e)
   · exact h.elim
 | .all k,D,h=>fun J=>askA_wp (t:=k J) (h J)
theorem Base.ask {P:Program} {T:Tab} {cfg:Cfg} (g:Base P T cfg) {S:Sums} (hS:SumsOK P cfg S) {n:Nat} {f:FuncId} {args:List AV} {v:AV} {D:DT} (h:Ev.ask (·=v) (bodyT T cfg S n f args) D):Fact P cfg f args v:=by
 obtain ⟨a,h1,h2⟩:=ask_run h
 cases h2
 exact g.fact hS h1
def nilS:Sums:=fun _=>none
def addG (S:Sums) (f:FuncId) (e:GSum):Sums:=fun g=>bif Nat.beq g f then some e else S g
def addS (S:Sums) (f:FuncId) (e:Sum):Sums:=addG S f (plainS e)
theorem sums_nil {P:Program} {cfg:Cfg}:SumsOK P cfg nilS:=fun f l h=>by cases h
theorem sums_addG {P:Program} {cfg:Cfg} {S:Sums} {f:FuncId} {e:GSum} (h:SumsOK P cfg S) (he:GSumOK P cfg f e):SumsOK P cfg (addG S f e):=fun g e' hg=>by
 unfold addG at hg
 cases hb:Nat.beq g f with
 | true=>
   rw [hb] at hg
   cases hg
   rw [beq_iff] at hb
   subst hb
   exact he
 | false=>rw [hb] at hg;exact h g e' hg
theorem sums_add {P:Program} {cfg:Cfg} {S:Sums} {f:FuncId} {e:Sum} (h:SumsOK P cfg S) (he:SumOK P cfg f e):SumsOK P cfg (addS S f e):=sums_addG h (plain_ok he)
theorem q_add (a b:Int):Int.add a b=a+b:=rfl
theorem q_sub (a b:Int):Int.sub a b=a-b:=rfl
theorem q_mul (a b:Int):Int.mul a b=a*b:=rfl
theorem q_div (a b:Int):Int.tdiv a b=a.tdiv b:=rfl
theorem q_neg (a:Int):Int.neg a = -a:=rfl
theorem q_u0:UInt8.ofNat 0=(0:UInt8):=rfl
theorem q_ofNat (n:Nat):Int.ofNat n=(n:Int):=rfl
theorem q_eq_t {a b:Int}:(intEq a b=true)=(a=b):=propext intEq_iff
theorem q_eq_f {a b:Int}:(intEq a b=false)=(a≠b):=by
 rw [←Bool.not_eq_true,q_eq_t]
theorem q_le_t {a b:Int}:(intLe a b=true)=(a≤b):=by rw [intLe_dec];simp
theorem q_le_f {a b:Int}:(intLe a b=false)=(b<a):=by rw [intLe_dec];simp
theorem q_lt_t {a b:Nat}:(natLt a b=true)=(a<b):=propext natLt_iff
theorem q_lt_f {a b:Nat}:(natLt a b=false)=(b≤a):=by
 rw [←Bool.not_eq_true,q_lt_t];simp
theorem q_ble_t {a b:Nat}:(Nat.ble a b=true)=(a≤b):=propext ble_iff
theorem q_ble_f {a b:Nat}:(Nat.ble a b=false)=(b<a):=by
 rw [←Bool.not_eq_true,q_ble_t];simp
theorem q_beq_t {a b:Nat}:(Nat.beq a b=true)=(a=b):=propext beq_iff
theorem q_beq_f {a b:Nat}:(Nat.beq a b=false)=(a≠b):=by
 rw [←Bool.not_eq_true,q_beq_t]
theorem q_not_t {a:Bool}:(Bool.not a=true)=(a=false):=by cases a<;>simp
theorem q_not_f {a:Bool}:(Bool.not a=false)=(a=true):=by cases a<;>simp
theorem q_and_t {a b:Bool}:(Bool.and a b=true)=(a=true/\b=true):=by cases a<;>cases b<;>simp
theorem q_and_f {a b:Bool}:(Bool.and a b=false)=(a=false∨b=false):=by cases a<;>cases b<;>simp
theorem q_or_t {a b:Bool}:(Bool.or a b=true)=(a=true∨b=true):=by cases a<;>cases b<;>simp
theorem q_or_f {a b:Bool}:(Bool.or a b=false)=(a=false/\b=false):=by cases a<;>cases b<;>simp
theorem q_bf_t {a:Bool}:(boolEq a false=true)=(a=false):=by cases a<;>simp [boolEq]
theorem q_bf_f {a:Bool}:(boolEq a false=false)=(a=true):=by cases a<;>simp [boolEq]
theorem q_bt_t {a:Bool}:(boolEq a true=true)=(a=true):=by cases a<;>simp [boolEq]
theorem q_bt_f {a:Bool}:(boolEq a true=false)=(a=false):=by cases a<;>simp [boolEq]
theorem q_inR_t {k:IntKind} {n:Int}:(inR k n=true)=(loK k≤n/\n≤hiK k):=by rw [inR,Bool.and_eq_true,q_le_t,q_le_t]
theorem q_inR_f {k:IntKind} {n:Int}:(inR k n=false)=¬(loK k≤n/\n≤hiK k):=by rw [←Bool.not_eq_true,q_inR_t]
theorem q_all:(∀a b,Int.add a b=a+b)/\(∀a b,Int.sub a b=a-b)/\(∀a b,Int.mul a b=a*b)/\(∀a b,Int.tdiv a b=a.tdiv b)/\(∀a,Int.neg a = -a)/\UInt8.ofNat 0=(0:UInt8)/\(∀n:Nat,Int.ofNat n=(n:Int))/\
 (∀a b,(intEq a b=true)=(a=b))/\(∀a b,(intEq a b=false)=(a≠b))/\(∀a b,(intLe a b=true)=(a≤b))/\(∀a b,(intLe a b=false)=(b<a))/\(∀a b,(natLt a b=true)=(a<b))/\(∀a b,(natLt a b=false)=(b≤a))/\
 (∀a b,(Nat.ble a b=true)=(a≤b))/\(∀a b,(Nat.ble a b=false)=(b<a))/\(∀a b,(Nat.beq a b=true)=(a=b))/\(∀a b,(Nat.beq a b=false)=(a≠b))/\(∀a,(Bool.not a=true)=(a=false))/\(∀a,(Bool.not a=false)=(a=true))/\
 (∀a b,(Bool.and a b=true)=(a=true/\b=true))/\(∀a b,(Bool.and a b=false)=(a=false∨b=false))/\(∀a b,(Bool.or a b=true)=(a=true∨b=true))/\(∀a b,(Bool.or a b=false)=(a=false/\b=false))/\
 (∀a,(boolEq a false=true)=(a=false))/\(∀a,(boolEq a false=false)=(a=true))/\(∀a,(boolEq a true=true)=(a=true))/\(∀a,(boolEq a true=false)=(a=false))/\
 (∀k n,(inR k n=true)=(loK k≤n/\n≤hiK k))/\(∀k n,(inR k n=false)=¬(loK k≤n/\n≤hiK k))/\(∀p:Prop,(p/\True)=p)/\(∀p:Prop,(p∨False)=p)/\(∀p:Prop,(False∨p)=p)/\((¬True)=False):=
 ⟨q_add,q_sub,q_mul,q_div,q_neg,q_u0,q_ofNat,fun _ _=>q_eq_t,fun _ _=>q_eq_f,fun _ _=>q_le_t,fun _ _=>q_le_f,fun _ _=>q_lt_t,fun _ _=>q_lt_f,fun _ _=>q_ble_t,fun _ _=>q_ble_f,fun _ _=>q_beq_t,fun _ _=>q_beq_f,
  fun _=>q_not_t,fun _=>q_not_f,fun _ _=>q_and_t,fun _ _=>q_and_f,fun _ _=>q_or_t,fun _ _=>q_or_f,fun _=>q_bf_t,fun _=>q_bf_f,fun _=>q_bt_t,fun _=>q_bt_f,fun _ _=>q_inR_t,fun _ _=>q_inR_f,and_true,or_false,false_or,not_true_eq_false⟩
theorem q_inj:(∀k n l m,(AV.int k n=AV.int l m)=(k=l/\n=m))/\(∀a b,(AV.bool a=AV.bool b)=(a=b))/\(∀a b,(AV.agg a=AV.agg b)=(a=b))/\(∀a b,(AV.tuple a=AV.tuple b)=(a=b))/\
 (∀(α:Type) (a b:α) l m,(a::l=b::m)=(a=b/\l=m))/\(∀p,(True/\p)=p)/\(∀p,(p/\True)=p)/\(∀(α:Type) (a:α),(a=a)=True)/\(∀(p:Prop) [Decidable p],(decide p=true)=p)/\(∀(p:Prop) [Decidable p],(decide p=false)=¬p):=
 ⟨AV.int.injEq,AV.bool.injEq,AV.agg.injEq,AV.tuple.injEq,fun _ a b l m=>List.cons.injEq a l b m,true_and,and_true,fun _ _=>eq_self _,fun _=>decide_eq_true_eq,fun _=>propext decide_eq_false_iff_not⟩
end Go.Ev
