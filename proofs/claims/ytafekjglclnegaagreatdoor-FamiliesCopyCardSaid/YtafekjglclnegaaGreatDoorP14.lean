import Derived.Test.YtafekjglclnegaaGreatDoorP13
set_option linter.all false
namespace Go.Ev
open Go
abbrev tD:Type:=FuncId->bg->List AV->aC->Option (Tr (AV×aC))
structure wP(cfg:cx)(orcT:tD):Prop where
 some':∀{f C args o t},orcT f C args o=some t->∀{r},t.run=some r->cfg.orc f C args o=some r
 none':∀{f C args o},orcT f C args o=none->cfg.orc f C args o=none
section
variable{R:Type}
abbrev yx(R:Type):Type:=bg->FuncId->List AV->aC->(AV×aC->Tr R)->Tr R
abbrev kW(R:Type):Type:=bg->Code->St->(AX×St->Tr R)->Tr R
section
variable(P:eA)(cfg:cx)(call:yx R)(C:bg)
def F0(x:AV)(d:Option TypeDesc)(K:AV->Tr R):Tr R:=match d with
 | some .string=>(match x with
   | .str s=>K (.int .i64 (.ofNat s.length))
   | _=>.fail)
 | some (.slice _)=>(match x with
   | .slice _ _ n _=>K (.int .i64 (.ofNat n))
   | .nilslice=>K (.int .i64 0)
   | _=>.fail)
 | some (.array n _)=>K (.int .i64 (.ofNat n))
 | _=>.fail
def FK(x:AV)(d:Option TypeDesc)(K:AV->Tr R):Tr R:=match d with
 | some (.slice _)=>(match x with
   | .slice _ _ _ (.known n)=>K (.int .i64 (.ofNat n))
   | .nilslice=>K (.int .i64 0)
   | _=>.fail)
 | _=>.fail
def wQ(o:aC)(size n:Nat)(x:AV)(K:List AV->Tr R):Tr R:=match x with
 | .slice id off len _=>eh (Nat.ble n len) (aV (cellsOf (get C o id)) λcs=>Bg cs off (n*size) K)
 | .nilslice=>eh (Nat.beq n 0) (K [])
 | .str s=>eh (Nat.ble n s.length) (K ((s.take n).map hH))
 | _=>.fail
def zT(o:aC)(id off:Nat)(vs:List AV)(K:aC->Tr R):Tr R:=aV (dP C o id) λx=>G_ off vs x λx'=>K (dY C o id x')
def pm(o:aC)(size n:Nat)(new:List AV)(s:AV)(K:AV×aC->Tr R):Tr R:=match s with
 | .nilslice=>K (kV C o size n new)
 | .slice id off len c=>(match c with
   | .known c=>.test (Nat.ble (len+n) c) λb=>bif b then zT C o id (off+len*size) new λo'=>K (.slice id off (len+n) (.known c),o')
     else aV (cellsOf (get C o id)) λcs=>Bg cs off (len*size) λold=>K (kV C o size (len+n) (old++new))
   | .rest k=>eh (Nat.beq off 0&&Nat.beq k 0) (aV (dP C o id) λx=>(match x with
     | .cells cs true (some g)=>eh (Nat.beq g size&&Nat.beq cs.length (len*size)) (K (kV C (dY C o id .dead) size (len+n) (cs++new)))
     | _=>.fail)))
 | _=>.fail
def A8(o:aC)(sType xType:TypeId)(s x:AV)(K:AV×aC->Tr R):Tr R:=
 aV (iU P sType) λelem=>bif lA P xType&&o9 P elem&&jC s then aV (fx P elem) λsize=>aV (jh P elem) λz=>aV (mq x) λn=>aV (mq s) λsl=>
  .test (Nat.beq n 0) λb=>bif b then eh (Km s) (K (s,o))else eh (Dj sl n size) (bif Nat.beq (bP z).length size&&wN size x then wQ C o size n x λnew=>eh (eF new) (pm C o size n new s K)else .fail)
 else .fail
def AJ(o:aC)(n:Nat)(cs:List AV)(d:AV)(K:AV×aC->Tr R):Tr R:=match d with
 | .nilslice=>K (.int .i64 (.ofNat n),o)
 | .slice id off _ _=>eh (eF cs) (zT C o id off cs λo'=>K (.int .i64 (.ofNat n),o'))
 | _=>.fail
def JF(o:aC)(dType:TypeId)(d s:AV)(K:AV×aC->Tr R):Tr R:=
 aV (iU P dType) λelem=>bif jC d then aV (fx P elem) λsize=>aV (mq d) λdl=>aV (mq s) λsl=>
  w5 (Nat.ble sl dl) sl dl λn=>wQ C o size n s λcs=>AJ C o n cs d K
 else .fail
def ra(o:aC)(b:Builtin)(ts:List TypeId)(args:List AV)(K:AV×aC->Tr R):Tr R:=match b with
 | .len=>(match args with
   | [x]=>aV ts[0]? λt=>F0 x (P.und t) λv=>K (v,o)
   | _=>.fail)
 | .cap=>(match args with
   | [x]=>aV ts[0]? λt=>FK x (P.und t) λv=>K (v,o)
   | _=>.fail)
 | .append=>(match args with
   | [s,x]=>aV ts[0]? λt=>aV ts[1]? λu=>A8 P C o t u s x K
   | _=>.fail)
 | .copy=>(match args with
   | [d,s]=>aV ts[0]? λt=>JF P C o t d s K
   | _=>.fail)
 | b=>aV (eQ P C o b ts args) K
theorem hC(n:Nat):goInt n=.int .i64 (.ofNat n):=by cases n<;>rfl
theorem Cq{x:AV}{d:Option TypeDesc}{K:AV->Tr R}{s:R}(h:(F0 x d K).run=some s):∃v,CZ x d=some v/\(K v).run=some s:=by
 unfold F0 at h
 unfold CZ
 split at h
 · split at h
   · exact⟨_,by simp only[hC],h⟩
   · cases h
 · split at h
   · exact⟨_,by simp only[hC],h⟩
   · exact⟨_,by simp only[hC];rfl,h⟩
   · cases h
 · exact⟨_,by simp only[hC],h⟩
 · cases h
theorem B2{x:AV}{d:Option TypeDesc}{K:AV->Tr R}{s:R}(h:(FK x d K).run=some s):∃v,BZ x d=some v/\(K v).run=some s:=by
 unfold FK at h
 unfold BZ
 split at h
 · split at h
   · exact⟨_,by simp only[hC],h⟩
   · exact⟨_,by simp only[hC];rfl,h⟩
   · cases h
 · cases h
theorem sJ{o:aC}{size n:Nat}{x:AV}{K:List AV->Tr R}{s:R}(h:(wQ C o size n x K).run=some s):∃v,io C o size n x=some v/\(K v).run=some s:=by
 unfold wQ at h
 unfold io
 split at h
 · obtain⟨h1,h⟩:=bu h
   obtain⟨cs,hc,h⟩:=au h
   obtain⟨vs,hv,h⟩:=pB h
   exact⟨vs,by simp only[h1,ok,cond_true,jG,hc,ob,hv],h⟩
 · obtain⟨h1,h⟩:=bu h
   exact⟨_,by simp only[h1,ok,cond_true],h⟩
 · obtain⟨h1,h⟩:=bu h
   exact⟨_,by simp only[h1,ok,cond_true],h⟩
 · cases h
theorem rl{o:aC}{id off:Nat}{vs:List AV}{K:aC->Tr R}{s:R}(h:(zT C o id off vs K).run=some s):∃o',js C o id off vs=some o'/\(K o').run=some s:=by
 obtain⟨x,hx,h⟩:=au h
 obtain⟨y,hy,h⟩:=yW h
 exact⟨_,by simp only[js,hx,ob,hy],h⟩
theorem tq{o:aC}{size n:Nat}{new:List AV}{x:AV}{K:AV×aC->Tr R}{s:R}(h:(pm C o size n new x K).run=some s):∃r,hI C o size n new x=some r/\(K r).run=some s:=by
 unfold pm at h
 unfold hI
 split at h
 · grind
 · rename_i id off len c
   simp only
   unfold appendCap
   split at h
   · rename_i c
     simp only[Tr.run]at h
     simp only[jg]
     cases hb:Nat.ble (len+n) c with
     | true=>
       rw[hb,cond_true]at h
       obtain⟨o',ho,h⟩:=rl C h
       exact⟨_,by simp only[cond_true,ho,ob],h⟩
     | false=>
       rw[hb,cond_false]at h
       obtain⟨cs,hc,h⟩:=au h
       obtain⟨vs,hv,h⟩:=pB h
       exact⟨_,by simp only[cond_false,jG,hc,ob,hv],h⟩
   · rename_i k
     obtain⟨h1,h⟩:=bu h
     obtain⟨y,hy,h⟩:=au h
     simp only[jU,h1,ok,cond_true,hy,ob]
     split at h
     · obtain⟨h2,h⟩:=bu h
       exact⟨_,by simp only[rm,h2,ok,cond_true],h⟩
     · cases h
 · cases h
theorem xy{o:aC}{t u:TypeId}{x y:AV}{K:AV×aC->Tr R}{s:R}(h:(A8 P C o t u x y K).run=some s):∃r,lG P C o t u x y=some r/\(K r).run=some s:=by
 obtain⟨e,he,h⟩:=au h
 obtain⟨h1,h⟩:=cW h
 obtain⟨sz,hs,h⟩:=au h
 obtain⟨z,hz,h⟩:=au h
 obtain⟨n,hn,h⟩:=au h
 obtain⟨sl,hsl,h⟩:=au h
 simp only[lG,he,ob,h1,ok,cond_true,hs,hz,hn,hsl]
 simp only[Tr.run]at h
 cases hb:Nat.beq n 0 with
 | true=>
   rw[hb,cond_true]at h
   obtain⟨h2,h⟩:=bu h
   exact⟨_,by simp only[cond_true,h2],h⟩
 | false=>
   rw[hb,cond_false]at h
   obtain⟨h2,h⟩:=bu h
   obtain⟨h3,h⟩:=cW h
   obtain⟨new,h4,h⟩:=sJ C h
   obtain⟨h5,h⟩:=bu h
   obtain⟨r,hr,h⟩:=tq C h
   have h6:(true&&Nat.beq (bP z).length sz&&wN sz y)=true:=by rw[Bool.true_and];exact h3
   exact⟨r,by simp only[cond_false,h2,h6,cond_true,h4,h5,hr],h⟩
theorem CY{o:aC}{t:TypeId}{d x:AV}{K:AV×aC->Tr R}{s:R}(h:(JF P C o t d x K).run=some s):∃r,vj P C o t d x=some r/\(K r).run=some s:=by
 obtain⟨e,he,h⟩:=au h
 obtain⟨h1,h⟩:=cW h
 obtain⟨sz,hs,h⟩:=au h
 obtain⟨dl,hd,h⟩:=au h
 obtain⟨sl,hsl,h⟩:=au h
 have h:=kL h
 obtain⟨cs,hc,h⟩:=sJ C h
 simp only[vj,he,ob,h1,ok,cond_true,hs,hd,hsl,Fp,hc]
 unfold AJ at h
 unfold pj
 split at h
 · exact⟨_,by simp only[hC],h⟩
 · obtain⟨h2,h⟩:=bu h
   obtain⟨o',ho,h⟩:=rl C h
   exact⟨_,by simp only[h2,ok,cond_true,ho,ob,hC],h⟩
 · cases h
theorem wy{o:aC}{b:Builtin}{ts:List TypeId}{args:List AV}{K:AV×aC->Tr R}{s:R}(h:(ra P C o b ts args K).run=some s):∃r,eQ P C o b ts args=some r/\(K r).run=some s:=by
 unfold ra at h
 split at h
 · split at h
   · obtain⟨t,ht,h⟩:=au h
     obtain⟨v,hv,h⟩:=Cq h
     exact⟨_,by simp only[eQ,ht,ob,one,hv,fw],h⟩
   · cases h
 · split at h
   · obtain⟨t,ht,h⟩:=au h
     obtain⟨v,hv,h⟩:=B2 h
     exact⟨_,by simp only[eQ,ht,ob,one,hv,fw],h⟩
   · cases h
 · split at h
   · obtain⟨t,ht,h⟩:=au h
     obtain⟨u,hu,h⟩:=au h
     obtain⟨r,hr,h⟩:=xy P C h
     exact⟨r,by simp only[eQ,ht,ob,hu,Ov,hr],h⟩
   · cases h
 · split at h
   · obtain⟨t,ht,h⟩:=au h
     obtain⟨r,hr,h⟩:=CY P C h
     exact⟨r,by simp only[eQ,ht,ob,Ov,hr],h⟩
   · cases h
 · exact au h
def Du(vs:List AV)(o:aC)(f:AV)(K:AV×aC->Tr R):Tr R:=match f with
 | .func f first captured=>call C f (first++vs++captured) o K
 | _=>.fail
def GD(ρ:Operand->Option AV)(o:aC)(c:Call)(K:AV×aC->Tr R):Tr R:=match c.callee with
 | .value f=>aV (ρ f) λfv=>aV (fh ρ c.args.toList) λvs=>Du call C vs o fv K
 | .builtin b=>aV (fh ρ c.args.toList) λvs=>ra P C o b c.argTypes.toList vs K
 | _=>.fail
def tW(ρ:Operand->Option AV)(o:aC)(op:Op)(K:AV×aC->Tr R):Tr R:=match op with
 | .call c=>GD P call C ρ o c K
 | op=>zo op P C ρ o K
def wL(ops:Array Oper)(ts:Ts)(g:Option (Nat×Bool))(K:Bool->Tr R):Tr R:=match g with
 | none=>K true
 | g=>.test (dV ops ts g) K
def zp(ops:Array Oper):List Oper->St->(St->Tr R)->Tr R
 | [],st,K=>K st
 | op::rest,st,K=>wL ops st.ts op.guard λw=>
   bif w then tW P call C (ea cfg.G st.ts) st.o op.op λr=>aV (ii st r.1 r.2 op.dst) λst'=>zp ops rest st' K
   else aV (ii st bj st.o op.dst) λst'=>zp ops rest st' K
def rh(ops:Array Oper):Nat->List Oper->St->List (Nat×fb)->(St×List (Nat×fb)->Tr R)->Tr R
 | _,[],st,log,K=>K (st,log)
 | i,op::rest,st,log,K=>wL ops st.ts op.guard λw=>
   bif w then tW P call C (ea cfg.G st.ts) st.o op.op λr=>aV (ii st r.1 r.2 op.dst) λst'=>
    bif qP (C.lo+st.o.n) (cU cfg (ea cfg.G st.ts) op.op)then rh ops (i+1) rest st' ((i,cU cfg (ea cfg.G st.ts) op.op)::log) K else .fail
   else aV (ii st bj st.o op.dst) λst'=>rh ops (i+1) rest st' ((i,.none)::log) K
def qy(callI:yx R)(ops:Array Oper)(draw:Bool)(st:St)(K:St->Tr R):Tr R:=
 bif draw then aV (AO ops) λacc=>rh P cfg call C ops 0 ops.toList st [] λr=>bif oS ops acc r.2 r.2 then K r.1 else .fail
 else zp P cfg callI C ops ops.toList st K
end
section
variable(P:eA)(cfg:cx)(orcT:tD)
def ww(code:kW R)(C:bg)(fn:Func)(c:Code)(args:List AV)(o:aC)(K:AV×aC->Tr R):Tr R:=
 bif Nat.ble args.length 1000 then code C c (ij fn args o) λx=>aV (qj P C fn x) K else .fail
def Ez(inl:Bool)(code:kW R)(C:bg)(f:FuncId)(args:List AV)(o:aC)(K:AV×aC->Tr R):Tr R:=
 aV (aH P f) λfc=>bif cfg.canon f&&aG cfg.root.n args then
  ww P code ⟨[(0,cfg.root)],cfg.root.n⟩ fc.1 fc.2 args ⟨0,[],[]⟩ λr=>bif fU cfg.root.n 20 r.1 then K (r.1,o)else .fail
  else bif inl&&xK args then .fail
  else ww P code ⟨(C.lo,o)::C.B,C.lo+o.n⟩ fc.1 fc.2 args ⟨0,[],fa C o (dm args (cfg.lend f))⟩ λr=>K (wj C o (fa C o (dm args (cfg.lend f))) r)
def pS(inl:Bool)(code:kW R)(C:bg)(f:FuncId)(args:List AV)(o:aC)(K:AV×aC->Tr R):Tr R:=match orcT f C args o with
 | some t=>t.bind K
 | none=>Ez P cfg inl code C f args o K
def oB(f:St->(AX×St->Tr R)->Tr R)(x:AX×St)(K:AX×St->Tr R):Tr R:=match x.1 with
 | .normal=>f x.2 K
 | _=>K x
def y_(f:Code->Tr R)(a b:Code)(v:AV):Tr R:=match v with
 | .bool d=>.test d λe=>bif e then f a else f b
 | _=>.fail
end
abbrev i7(R:Type):Type:=eA->cx->tD->kW R->bg->St->(AX×St->Tr R)->Tr R
def JS:i7 R:=λ_ _ _ _ _ st K=>K (.normal,st)
def Uu(a b:Code):i7 R:=λ_ _ _ code C st K=>code C a st λx=>oB (code C b) x K
def SX(c:Operand)(a b:Code):i7 R:=λ_ cfg _ code C st K=>aV (ea cfg.G st.ts c) (y_ (λc=>code C c st K) a b)
def M7(id:Nat)(b:Code):i7 R:=λ_ _ _ code C st K=>code C b st λr=>K (jA id r)
def Sq(b:Code):i7 R:=λ_ _ _ code C st K=>code C b st λx=>oB (code C (.loop b)) x K
def N0(b:Code):i7 R:=λ_ _ _ code C st K=>code C b st K
def SC(id:Nat):i7 R:=λ_ _ _ _ _ st K=>K (.exit id,st)
def W5:i7 R:=λ_ _ _ _ _ st K=>K (.ret,st)
def IY(ops:Array Oper)(draw:Bool):i7 R:=λP cfg orcT code C st K=>qy P cfg (pS P cfg orcT false code) C (pS P cfg orcT true code) ops draw st λst'=>K (.normal,st')
def O1:i7 R:=λ_ _ _ _ _ _ _=>.fail
def zd:Code->i7 R
 | .skip=>JS
 | .label _=>JS
 | .seq a b=>Uu a b
 | .cond c a b=>SX c a b
 | .block id b=>M7 id b
 | .loop b=>Sq b
 | .scope b=>N0 b
 | .exit id=>SC id
 | .ret=>W5
 | .region _ ops draw=>IY ops draw
 | _=>O1
def pV(P:eA)(cfg:cx)(orcT:tD):Nat->kW R
 | 0,_,_,_,_=>.fail
 | n+1,C,c,st,K=>zd c P cfg orcT (pV P cfg orcT n) C st K
def wh(pV:kW R)(ec:bg->Code->St->Option (AX×St)):Prop:=∀C c st K s,(pV C c st K).run=some s->∃x,ec C c st=some x/\(K x).run=some s
def wx(pS:yx R)(jH:bg->FuncId->List AV->aC->Option (AV×aC)):Prop:=∀C f args o K s,(pS C f args o K).run=some s->∃x,jH C f args o=some x/\(K x).run=some s
section
variable{P:eA}{cfg:cx}{call:yx R}{callA':bg->FuncId->List AV->aC->Option (AV×aC)}(hc:wx call callA'){rnd:bg->Nat->List AV->aC->Option (AV×aC)}{C:bg}
include hc
theorem vx{ρ:Operand->Option AV}{o:aC}{op:Op}{K:AV×aC->Tr R}{s:R}(h:(tW P call C ρ o op K).run=some s):∃r,fq P callA' rnd C ρ o op=some r/\(K r).run=some s:=by
 unfold tW at h
 unfold fq
 split at h
 · rename_i c
   simp only
   unfold GD at h
   unfold og
   cases hcal:c.callee with
   | value f=>
     simp only[hcal]at h ⊢
     obtain⟨fv,hf,h⟩:=au h
     obtain⟨vs,hvs,h⟩:=au h
     simp only[hf,hvs,ob]
     unfold Du at h
     cases fv<;>simp only at h<;>first|(cases h;done)|skip
     exact hc _ _ _ _ _ _ h
   | builtin b=>
     simp only[hcal]at h ⊢
     obtain⟨vs,hvs,h⟩:=au h
     simp only[hvs,ob]
     exact wy P C h
   | invoke x n=>simp only[hcal]at h;cases h
 · rename_i hne
   obtain⟨r,hr,hk⟩:=Ht h
   refine⟨r,?_,hk⟩
   split
   · grind
   · exact hr
theorem qT{ops:Array Oper}:∀{l:List Oper} {st:St} {K:St->Tr R} {s:R},(zp P cfg call C ops l st K).run=some s->∃st',yH P cfg callA' rnd C ops l st=some st'/\(K st').run=some s
 | [],st,K,s,h=>⟨st,rfl,h⟩
 | op::rest,st,K,s,h=>by
   have h:(bif dV ops st.ts op.guard then tW P call C (ea cfg.G st.ts) st.o op.op λr=>aV (ii st r.1 r.2 op.dst) λst'=>zp P cfg call C ops rest st' K
    else aV (ii st bj st.o op.dst) λst'=>zp P cfg call C ops rest st' K).run=some s:=by
    unfold zp wL at h
    split at h
    · rename_i hg;rw[hg];exact h
    · exact h
   simp only[yH]
   cases hw:dV ops st.ts op.guard with
   | true=>
     rw[hw,cond_true]at h
     rw[cond_true]
     obtain⟨r,hr,h⟩:=vx (rnd:=rnd) hc h
     obtain⟨st1,hp,h⟩:=au h
     obtain⟨st2,h2,h⟩:=qT h
     exact⟨st2,by simp only[hr,ob,hp];exact h2,h⟩
   | false=>
     rw[hw,cond_false]at h
     rw[cond_false]
     obtain⟨st1,hp,h⟩:=au h
     obtain⟨st2,h2,h⟩:=qT h
     exact⟨st2,by simp only[ob,hp];exact h2,h⟩
theorem pG{ops:Array Oper}:∀{l:List Oper} {i:Nat} {st:St} {log:List (Nat×fb)} {K:St×List (Nat×fb)->Tr R} {s:R},(rh P cfg call C ops i l st log K).run=some s->∃r,mG P cfg callA' C ops i l st log=some r/\(K r).run=some s
 | [],i,st,log,K,s,h=>⟨_,rfl,h⟩
 | op::rest,i,st,log,K,s,h=>by
   have h:(bif dV ops st.ts op.guard then tW P call C (ea cfg.G st.ts) st.o op.op λr=>aV (ii st r.1 r.2 op.dst) λst'=>
    bif qP (C.lo+st.o.n) (cU cfg (ea cfg.G st.ts) op.op)then rh P cfg call C ops (i+1) rest st' ((i,cU cfg (ea cfg.G st.ts) op.op)::log) K else .fail
    else aV (ii st bj st.o op.dst) λst'=>rh P cfg call C ops (i+1) rest st' ((i,.none)::log) K).run=some s:=by
    unfold rh wL at h
    split at h
    · rename_i hg;rw[hg];exact h
    · exact h
   unfold mG
   cases hw:dV ops st.ts op.guard with
   | true=>
     rw[hw,cond_true]at h
     rw[cond_true]
     obtain⟨r,hr,h⟩:=vx (rnd:=o_) hc h
     obtain⟨st1,hp,h⟩:=au h
     obtain⟨hf,h⟩:=cW h
     obtain⟨r2,h2,h⟩:=pG h
     exact⟨r2,by simp only[hr,ob,hp,ok,hf,cond_true];exact h2,h⟩
   | false=>
     rw[hw,cond_false]at h
     rw[cond_false]
     obtain⟨st1,hp,h⟩:=au h
     obtain⟨r2,h2,h⟩:=pG h
     exact⟨r2,by simp only[ob,hp];exact h2,h⟩
theorem qg{callI:yx R}{callI':bg->FuncId->List AV->aC->Option (AV×aC)}(hcI:wx callI callI'){ops:Array Oper}{draw:Bool}{st:St}{K:St->Tr R}{s:R}(h:(qy P cfg call C callI ops draw st K).run=some s) :
 ∃st',iJ P cfg callA' rnd C callI' ops draw st=some st'/\(K st').run=some s:=by
 unfold qy at h
 unfold iJ
 cases draw with
 | true=>
   rw[cond_true]at h
   rw[cond_true]
   obtain⟨acc,ha,h⟩:=au h
   obtain⟨r,hr,h⟩:=pG hc h
   obtain⟨h1,h2⟩:=cW h
   exact⟨r.1,by simp only[ha,ob,hr,ok,h1,cond_true],h2⟩
 | false=>
   rw[cond_false]at h
   rw[cond_false]
   exact qT hcI h
end
section
variable{P:eA}{cfg:cx}{orcT:tD}(ho:wP cfg orcT)
theorem m8{code:kW R}{codeA':bg->Code->St->Option (AX×St)}(hcode:wh code codeA'){C:bg}{fn:Func}{c:Code}{args:List AV}{o:aC}{K:AV×aC->Tr R}{s:R}(h:(ww P code C fn c args o K).run=some s) :
 ∃r,jt P codeA' C fn c args o=some r/\(K r).run=some s:=by
 obtain⟨h1,h2⟩:=cW h
 obtain⟨x,hx,h3⟩:=hcode _ _ _ _ _ h2
 obtain⟨r,hr,h4⟩:=au h3
 exact⟨r,by simp only[jt,h1,ok,cond_true,hx,ob];exact hr,h4⟩
include ho
theorem lJ{code:kW R}{codeA':bg->Code->St->Option (AX×St)}(hcode:wh code codeA'){inl:Bool}:wx (pS P cfg orcT inl code) (jH P cfg inl codeA'):=by
 intro C f args o K s h
 unfold pS at h
 unfold jH
 cases hx:orcT f C args o with
 | some t=>
   rw[hx]at h
   obtain⟨r,hr,h⟩:=Tr.run_bind h
   exact⟨r,by rw[ho.some' hx hr],h⟩
 | none=>
   rw[hx]at h
   rw[ho.none' hx]
   simp only
   unfold Ez at h
   obtain⟨fc,hb,h⟩:=au h
   simp only[yc,hb,ob]
   cases hcn:(cfg.canon f&&aG cfg.root.n args)with
   | true=>
     rw[hcn,cond_true]at h
     rw[cond_true]
     obtain⟨r,hr,h⟩:=m8 hcode h
     obtain⟨h1,h2⟩:=cW h
     exact⟨_,by simp only[tP,hr,ob,ok,h1,cond_true],h2⟩
   | false=>
     rw[hcn,cond_false]at h
     rw[cond_false]
     simp only[yF]
     cases hy:(inl&&xK args)with
     | true=>rw[hy]at h;cases h
     | false=>
       rw[hy,cond_false]at h
       rw[cond_false]
       obtain⟨r,hr,h⟩:=m8 hcode h
       exact⟨_,by simp only[vc,hr,ob],h⟩
theorem vl{f:St->(AX×St->Tr R)->Tr R}{g:St->Option (AX×St)}(hf:∀st K s,(f st K).run=some s->∃x,g st=some x/\(K x).run=some s){x:AX×St}{K:AX×St->Tr R}{s:R}(h:(oB f x K).run=some s) :
 ∃y,pO g x=some y/\(K y).run=some s:=by
 unfold oB at h
 unfold pO
 cases hx:x.1<;>rw[hx]at h<;>simp only at h ⊢
 · grind
 · grind
 · grind
theorem lP:∀n,wh (R:=R) (pV P cfg orcT n) (ec P cfg n)
 | 0,C,c,st,K,s,h=>by cases h
 | n+1,C,c,st,K,s,h=>by
   have ih:=lP n
   unfold pV at h
   unfold ec
   cases c<;>simp only[zd,eO]at h ⊢
   case skip=>exact⟨_,rfl,h⟩
   case label=>exact⟨_,rfl,h⟩
   case exit=>exact⟨_,rfl,h⟩
   case ret=>exact⟨_,rfl,h⟩
   case seq a b=>
    obtain⟨x,hx,h⟩:=ih _ _ _ _ _ h
    obtain⟨y,hy,h⟩:=vl ho (λst K s=>ih C b st K s) h
    exact⟨y,by simp only[Jp,hx,ob];exact hy,h⟩
   case cond c a b=>
    obtain⟨v,hv,h⟩:=au h
    unfold y_ at h
    cases v<;>simp only at h<;>first|(cases h;done)|skip
    rename_i d
    simp only[Tr.run]at h
    simp only[Bz,hv,ob]
    cases d with
    | true=>exact ih _ _ _ _ _ h
    | false=>exact ih _ _ _ _ _ h
   case block id b=>
    obtain⟨x,hx,h⟩:=ih _ _ _ _ _ h
    exact⟨_,by simp only[xh,hx,ob],h⟩
   case loop b=>
    obtain⟨x,hx,h⟩:=ih _ _ _ _ _ h
    obtain⟨y,hy,h⟩:=vl ho (λst K s=>ih C (.loop b) st K s) h
    exact⟨y,by simp only[Bn,hx,ob];exact hy,h⟩
   case scope b=>exact ih _ _ _ _ _ h
   case region id ops draw=>
    obtain⟨st',hs,h⟩:=qg (rnd:=mX (ec P cfg n)) (lJ ho ih) (lJ ho ih) h
    exact⟨_,by simp only[nu,hs,ob],h⟩
   all_goals cases h
end
end
abbrev CR:Type:=bg->List AV->aC->Option (Tr (AV×aC))
abbrev bq:Type:=FuncId->Option CR
abbrev dM:Type:=List AV->Option (Tr AV)
def Xb(o:aC)(v:AV):Tr (AV×aC):=.ret (v,o)
def P6(o:aC):Option (Tr AV)->Option (Tr (AV×aC))
 | some t=>some (t.bind (Xb o))
 | none=>none
def zt(e:dM):CR:=λ_ args o=>P6 o (e args)
def rD(S:bq):tD:=λf C args o=>ob (S f) λe=>e C args o
def HL:Option (Tr (AV×aC))->Option (AV×aC)
 | some t=>t.run
 | none=>none
def dX(cfg:cx)(S:bq):cx:=⟨cfg.G,cfg.lend,cfg.canon,λf C args o=>HL (rD S f C args o),cfg.root⟩
theorem n5(cfg:cx)(S:bq):wP (dX cfg S) (rD S):=
 ⟨λ{f C args o t} h {r} hr=>by show HL (rD S f C args o)=_;rw[h];exact hr,λ{f C args o} h=>by show HL (rD S f C args o)=_;rw[h];rfl⟩
def gM(P:Program)(cfg:cx)(f:FuncId)(e:dM):Prop:=∀args t v,e args=some t->t.run=some v->ey P cfg f args v
def rE(P:Program)(cfg:cx)(f:FuncId)(e:CR):Prop:=∀C args o t r,e C args o=some t->t.run=some r->
 (∀D m w,dQ cfg D m C o w->eI D m args->iY P f (ar m args).toArray w λV w'=>∃D' m',V=aj m' r.1/\cY D' m' r.1/\dk cfg C D m o w D' m' r.2 w'/\ku D w D' m' w')/\(o.os.length=o.n->eb C o r.2 (dm args (cfg.lend f)))
def az(P:Program)(cfg:cx)(S:bq):Prop:=∀f e,S f=some e->rE P cfg f e
theorem GV{P:Program}{cfg:cx}{f:FuncId}{e:dM}(h:gM P cfg f e):rE P cfg f (zt e):=by
 intro C args o t r ht hr
 unfold zt at ht
 cases hx:e args with
 | none=>rw[hx]at ht;cases ht
 | some t'=>
   rw[hx]at ht
   cases ht
   obtain⟨v,hv,h2⟩:=Tr.run_bind (t:=t') hr
   cases h2
   exact⟨λD m w hi hok=>(h args t' v hx hv C D m o w hi hok).mono λV w' ⟨h1,h2,h3,h4⟩=>⟨D,m,h1,h2,h3,h4⟩,λhl=>.refl hl⟩
theorem ey.to{P:Program}{cfg cfg':cx}(hG:cfg'.G=cfg.G)(hr:cfg'.root=cfg.root){f:FuncId}{args:List AV}{v:AV}(h:ey P cfg f args v):ey P cfg' f args v:=by
 intro C D m o w hi hok
 exact(h C D m o w (dQ.to (cfg:=cfg') (cfg':=cfg) hG.symm hr.symm hi) hok).mono λV w' ⟨h1,h2,h3,h4⟩=>⟨h1,h2,dk.to hG hr h3,h4⟩
structure wm(P:Program)(T:eA)(cfg:cx):Prop where
 tab:eE P T
 mixed:P.follows .mixedOrders=true
 lv:nL cfg
theorem wm.good{P:Program}{T:eA}{cfg:cx}(g:wm P T cfg){S:bq}(hS:az P cfg S):fV P T (dX cfg S):=by
 have key:∀{f C args o} {r:AV×aC},HL (rD S f C args o)=some r->∃e t,S f=some e/\e C args o=some t/\t.run=some r:=by
  intro f C args o r h
  unfold rD at h
  cases hx:(ob (S f) λe=>e C args o)with
  | none=>rw[hx]at h;cases h
  | some t=>
    rw[hx]at h
    rw[ag]at hx
    obtain⟨e,he,ht⟩:=hx
    exact⟨e,t,he,ht,h⟩
 refine⟨g.tab,g.mixed,⟨g.lv.loops,g.lv.G,g.lv.root⟩,λC f args o r h D m w hi hok=>?_,λC f args o r h hl=>?_⟩
 · obtain⟨e,t,he,ht,hr⟩:=key h
   exact((hS f e he C args o t r ht hr).1 D m w (dQ.to (cfg:=dX cfg S) (cfg':=cfg) rfl rfl hi) hok).mono λV w' ⟨D',m',h1,h2,h3,h4⟩=>⟨D',m',h1,h2,dk.to (cfg:=cfg) (cfg':=dX cfg S) rfl rfl h3,λ_ _=>h4⟩
 · obtain⟨e,t,he,ht,hr⟩:=key h
   exact(hS f e he C args o t r ht hr).2 hl
def iu(T:eA)(cfg:cx)(S:bq)(n:Nat)(f:FuncId)(args:List AV):Tr AV:=
 bif aG cfg.root.n args then aV (aH T f) λfc=>ww T (pV T (dX cfg S) (rD S) n) ⟨[(0,cfg.root)],cfg.root.n⟩ fc.1 fc.2 args ⟨0,[],[]⟩ λr=>bif fU cfg.root.n 20 r.1 then .ret r.1 else .fail
 else .fail
theorem wm.fact{P:Program}{T:eA}{cfg:cx}(g:wm P T cfg){S:bq}(hS:az P cfg S){n:Nat}{f:FuncId}{args:List AV}{v:AV}(h:(iu T cfg S n f args).run=some v):ey P cfg f args v:=by
 have gg:=g.good hS
 obtain⟨hb,h⟩:=cW h
 obtain⟨fc,hf,h⟩:=au h
 obtain⟨r,he,h⟩:=m8 (lP (n5 cfg S) n) h
 obtain⟨h1,h2⟩:=cW h
 cases h2
 refine ey.to (cfg:=dX cfg S) (cfg':=cfg) rfl rfl λC D m o w hi hok=>?_
 exact rH gg.tab gg.lv (qv gg.tab gg.mixed gg.lv gg.orc gg.foot n).1 (nR gg.foot n) hf hb (by simp only[tP,ag,ay,Option.some.injEq];exact⟨r,he,h1,rfl⟩) hi hok
inductive DT where
 | z
 | e (D:DT)
 | b (x y:DT)
 | t (D:DT)
 | f (D:DT)
 | n (j:Nat) (D:DT)
 | o (j:Nat) (x y:DT)
def Yy(c m:Nat)(r:Nat->(DT->Nat->DT)->DT)(k:DT->Nat->DT):DT:=match c with
 | 0=>r m λD=>k (.e D)
 | 1=>k .z m
 | 2=>r m λD=>k (.t D)
 | 3=>r m λD=>k (.f D)
 | 4=>r m λx m=>r m λy=>k (.b x y)
 | 5=>r m λD=>k (.e (.e (.e (.e D))))
 | 6=>r m λD=>k (.e (.e (.e (.e (.e (.e (.e (.e (.e D)))))))))
 | 7=>r m λD=>k (.t (.t (.t D)))
 | _=>r m λD=>k (.f (.f (.f D)))
noncomputable def YC(f:Nat):Nat->(DT->Nat->DT)->DT:=
 Nat.rec (λ_ _=>.z) (λ_ r n k=>Yy (Nat.mod n 10) (Nat.div n 10) r k) f
noncomputable def b_(n:Nat):DT:=YC 100000 n λD _=>D
def ask{R:Type}(Q:R->Prop):Tr R->DT->Prop
 | .ret a,_=>Q a
 | .fail,_=>False
 | .test c k,D=>match D with
   | .e D=>ask Q (k c) D
   | .b x y=>(c=true->ask Q (k true) x)/\(c=false->ask Q (k false) y)
   | .t D=>c=true/\ask Q (k true) D
   | .f D=>c=false/\ask Q (k false) D
   | _=>False
 | .pickN i k,D=>match D with
   | .e D=>ask Q (k i) D
   | .n j D=>i=j/\ask Q (k j) D
   | .o j x y=>(i=j->ask Q (k j) x)/\(i≠j->ask Q (k i) y)
   | _=>False
 | .all _,_=>False
theorem g_{R:Type}{Q:R->Prop}:∀{t:Tr R} {D:DT},ask Q t D->∃a,t.run=some a/\Q a
 | .ret a,D,h=>⟨a,rfl,h⟩
 | .fail,D,h=>h.elim
 | .test c k,D,h=>by
   unfold ask at h
   split at h
   · exact g_ (t:=k c) h
   · cases c with
     | true=>exact g_ (t:=k true) (h.1 rfl)
     | false=>exact g_ (t:=k false) (h.2 rfl)
   · obtain⟨rfl,h⟩:=h;exact g_ (t:=k true) h
   · obtain⟨rfl,h⟩:=h;exact g_ (t:=k false) h
   · grind
 | .pickN i k,D,h=>by
   unfold ask at h
   split at h
   · exact g_ (t:=k i) h
   · obtain⟨rfl,h⟩:=h;exact g_ (t:=k i) h
   · rename_i j x y
     by_cases e:i=j
     · cases e;exact g_ (t:=k i) (h.1 rfl)
     · exact g_ (t:=k i) (h.2 e)
   · grind
 | .all _,D,h=>h.elim
def aO{R:Type}(Q:R->Prop):Tr R->DT->Prop
 | .ret a,_=>Q a
 | .fail,_=>False
 | .test c k,D=>match D with
   | .e D=>aO Q (k c) D
   | .b x y=>(c=true->aO Q (k true) x)/\(c=false->aO Q (k false) y)
   | .t D=>c=true/\aO Q (k true) D
   | .f D=>c=false/\aO Q (k false) D
   | _=>False
 | .pickN i k,D=>match D with
   | .e D=>aO Q (k i) D
   | .n j D=>i=j/\aO Q (k j) D
   | .o j x y=>(i=j->aO Q (k j) x)/\(i≠j->aO Q (k i) y)
   | _=>False
 | .all k,D=>∀J,aO Q (k J) D
theorem al{R:Type}{Q:R->Prop}:∀{t:Tr R} {D:DT},aO Q t D->t.wp Q
 | .ret a,D,h=>h
 | .fail,D,h=>h.elim
 | .test c k,D,h=>by
   unfold aO at h
   split at h
   · exact al (t:=k c) h
   · cases c with
     | true=>exact al (t:=k true) (h.1 rfl)
     | false=>exact al (t:=k false) (h.2 rfl)
   · obtain⟨rfl,h⟩:=h;exact al (t:=k true) h
   · obtain⟨rfl,h⟩:=h;exact al (t:=k false) h
   · grind
 | .pickN i k,D,h=>by
   unfold aO at h
   split at h
   · exact al (t:=k i) h
   · obtain⟨rfl,h⟩:=h;exact al (t:=k i) h
   · rename_i j x y
     by_cases e:i=j
     · cases e;exact al (t:=k i) (h.1 rfl)
     · exact al (t:=k i) (h.2 e)
   · grind
 | .all k,D,h=>λJ=>al (t:=k J) (h J)
theorem wm.ask{P:Program}{T:eA}{cfg:cx}(g:wm P T cfg){S:bq}(hS:az P cfg S){n:Nat}{f:FuncId}{args:List AV}{v:AV}{D:DT}(h:Ev.ask (·=v) (iu T cfg S n f args) D):ey P cfg f args v:=by
 obtain⟨a,h1,h2⟩:=g_ h
 cases h2
 exact g.fact hS h1
def dF:bq:=λ_=>none
def gu(S:bq)(f:FuncId)(e:CR):bq:=λg=>bif Nat.beq g f then some e else S g
def j1(S:bq)(f:FuncId)(e:dM):bq:=gu S f (zt e)
theorem aT{P:Program}{cfg:cx}:az P cfg dF:=λf l h=>by cases h
theorem bK{P:Program}{cfg:cx}{S:bq}{f:FuncId}{e:CR}(h:az P cfg S)(he:rE P cfg f e):az P cfg (gu S f e):=λg e' hg=>by
 unfold gu at hg
 cases hb:Nat.beq g f with
 | true=>
   simp_all
 | false=>rw[hb]at hg;exact h g e' hg
theorem dr{P:Program}{cfg:cx}{S:bq}{f:FuncId}{e:dM}(h:az P cfg S)(he:gM P cfg f e):az P cfg (j1 S f e):=bK h (GV he)
theorem kP(a b:Int):Int.add a b=a+b:=rfl
theorem vv(a b:Int):Int.sub a b=a-b:=rfl
theorem tZ(a b:Int):Int.mul a b=a*b:=rfl
theorem Rx(a b:Int):Int.tdiv a b=a.tdiv b:=rfl
theorem O7(a:Int):Int.neg a = -a:=rfl
theorem Wh:UInt8.ofNat 0=(0:UInt8):=rfl
theorem wi(n:Nat):Int.ofNat n=(n:Int):=rfl
theorem aS{a b:Int}:(aa a b=true)=(a=b):=propext ly
theorem aF{a b:Int}:(aa a b=false)=(a≠b):=by
 rw[<-Bool.not_eq_true,aS]
theorem aK{a b:Int}:(ab a b=true)=(a<=b):=by rw[eV];simp
theorem dc{a b:Int}:(ab a b=false)=(b<a):=by rw[eV];simp
theorem wb{a b:Nat}:(bm a b=true)=(a<b):=propext ba
theorem Li{a b:Nat}:(bm a b=false)=(b<=a):=by
 rw[<-Bool.not_eq_true,wb];simp
theorem aB{a b:Nat}:(Nat.ble a b=true)=(a<=b):=propext bt
theorem wS{a b:Nat}:(Nat.ble a b=false)=(b<a):=by
 rw[<-Bool.not_eq_true,aB];simp
theorem bW{a b:Nat}:(Nat.beq a b=true)=(a=b):=propext cK
theorem jn{a b:Nat}:(Nat.beq a b=false)=(a≠b):=by
 rw[<-Bool.not_eq_true,bW]
theorem iK{a:Bool}:(Bool.not a=true)=(a=false):=by cases a<;>simp
theorem Bb{a:Bool}:(Bool.not a=false)=(a=true):=by cases a<;>simp
theorem lT{a b:Bool}:(Bool.and a b=true)=(a=true/\b=true):=by cases a<;>cases b<;>simp
theorem IE{a b:Bool}:(Bool.and a b=false)=(a=false\/b=false):=by cases a<;>cases b<;>simp
theorem pf{a b:Bool}:(Bool.or a b=true)=(a=true\/b=true):=by cases a<;>cases b<;>simp
theorem N9{a b:Bool}:(Bool.or a b=false)=(a=false/\b=false):=by cases a<;>cases b<;>simp
theorem FT{a:Bool}:(aL a false=true)=(a=false):=by cases a<;>simp[aL]
theorem Of{a:Bool}:(aL a false=false)=(a=true):=by cases a<;>simp[aL]
theorem NS{a:Bool}:(aL a true=true)=(a=true):=by cases a<;>simp[aL]
theorem Ln{a:Bool}:(aL a true=false)=(a=false):=by cases a<;>simp[aL]
theorem aQ{k:IntKind}{n:Int}:(ae k n=true)=(bA k<=n/\n<=bB k):=by rw[ae,Bool.and_eq_true,aK,aK]
theorem IH{k:IntKind}{n:Int}:(ae k n=false)=¬(bA k<=n/\n<=bB k):=by rw[<-Bool.not_eq_true,aQ]
theorem aD:(∀a b,Int.add a b=a+b)/\(∀a b,Int.sub a b=a-b)/\(∀a b,Int.mul a b=a*b)/\(∀a b,Int.tdiv a b=a.tdiv b)/\(∀a,Int.neg a = -a)/\UInt8.ofNat 0=(0:UInt8)/\(∀n:Nat,Int.ofNat n=(n:Int))/\
 (∀a b,(aa a b=true)=(a=b))/\(∀a b,(aa a b=false)=(a≠b))/\(∀a b,(ab a b=true)=(a<=b))/\(∀a b,(ab a b=false)=(b<a))/\(∀a b,(bm a b=true)=(a<b))/\(∀a b,(bm a b=false)=(b<=a))/\
 (∀a b,(Nat.ble a b=true)=(a<=b))/\(∀a b,(Nat.ble a b=false)=(b<a))/\(∀a b,(Nat.beq a b=true)=(a=b))/\(∀a b,(Nat.beq a b=false)=(a≠b))/\(∀a,(Bool.not a=true)=(a=false))/\(∀a,(Bool.not a=false)=(a=true))/\
 (∀a b,(Bool.and a b=true)=(a=true/\b=true))/\(∀a b,(Bool.and a b=false)=(a=false\/b=false))/\(∀a b,(Bool.or a b=true)=(a=true\/b=true))/\(∀a b,(Bool.or a b=false)=(a=false/\b=false))/\
 (∀a,(aL a false=true)=(a=false))/\(∀a,(aL a false=false)=(a=true))/\(∀a,(aL a true=true)=(a=true))/\(∀a,(aL a true=false)=(a=false))/\
 (∀k n,(ae k n=true)=(bA k<=n/\n<=bB k))/\(∀k n,(ae k n=false)=¬(bA k<=n/\n<=bB k))/\(∀p:Prop,(p/\True)=p)/\(∀p:Prop,(p\/False)=p)/\(∀p:Prop,(False\/p)=p)/\((¬True)=False):=
 ⟨kP,vv,tZ,Rx,O7,Wh,wi,λ_ _=>aS,λ_ _=>aF,λ_ _=>aK,λ_ _=>dc,λ_ _=>wb,λ_ _=>Li,λ_ _=>aB,λ_ _=>wS,λ_ _=>bW,λ_ _=>jn,
  λ_=>iK,λ_=>Bb,λ_ _=>lT,λ_ _=>IE,λ_ _=>pf,λ_ _=>N9,λ_=>FT,λ_=>Of,λ_=>NS,λ_=>Ln,λ_ _=>aQ,λ_ _=>IH,and_true,or_false,false_or,not_true_eq_false⟩
theorem nE:(∀k n l m,(AV.int k n=AV.int l m)=(k=l/\n=m))/\(∀a b,(AV.bool a=AV.bool b)=(a=b))/\(∀a b,(AV.agg a=AV.agg b)=(a=b))/\(∀a b,(AV.tuple a=AV.tuple b)=(a=b))/\
 (∀(α:Type) (a b:α) l m,(a::l=b::m)=(a=b/\l=m))/\(∀p,(True/\p)=p)/\(∀p,(p/\True)=p)/\(∀(α:Type) (a:α),(a=a)=True)/\(∀(p:Prop) [Decidable p],(decide p=true)=p)/\(∀(p:Prop) [Decidable p],(decide p=false)=¬p):=
 ⟨AV.int.injEq,AV.bool.injEq,AV.agg.injEq,AV.tuple.injEq,λ_ a b l m=>List.cons.injEq a l b m,true_and,and_true,λ_ _=>eq_self _,λ_=>decide_eq_true_eq,λ_=>propext decide_eq_false_iff_not⟩
end Go.Ev
