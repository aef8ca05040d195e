import Derived.Test.YtoghlpcacfnjbaaGreatDoorP11
set_option linter.all false
set_option maxRecDepth 100000
set_option maxHeartbeats 4000000
section
namespace Go.Ev
open Go Go.RowKit
variable{c:Code}{C:bg}{st:St}
section
variable{P:Program}{b:Frame}{a:Act}{k:List Item}{cs:List Frame}{w:World}{Q:Exit->Act->World->Prop}
theorem Cp:step P (lone (b.atR a (.code (.scope c)::k)) cs w)=.next (lone (b.atR a (.code c::.inScope c::k)) cs w):=
 step_lone_go (by simp[stepG,stepG.exec,Frame.atR])
theorem y5:step P (lone (b.atR a (.inScope c::k)) cs w)=.next (lone (b.atR a k) cs w):=
 step_lone_go (by simp[stepG,stepG.exec,Frame.atR])
theorem jU{x:Option Nat}(h:c.wpIn (FR x) 0 P (Exit.noGoto Q) a w):(Code.scope c).wpIn (FR x) 0 P Q a w:=by
 intro b k cs hro hb hr;obtain⟨e,a₁,w₁,hq,harr⟩:=h b (.inScope c::k) cs hro hb hr;have h0:StepsIn (Machine.fenced P (FR x)) P (lone (b.atR a (.code (.scope c)::k)) cs w) (lone (b.atR a (.code c::.inScope c::k)) cs w):=.one (fenced_calm (fr:=b.atR a (.code (.scope c)::k)) hb hr rfl) Cp;cases e with
 | normal=>exact⟨.normal,a₁,w₁,hq,h0.trans (StepsIn.trans harr (.one (fenced_calm (fr:=b.atR a₁ (.inScope c::k)) hb hr rfl) y5))⟩
 | exit id=>
   exact⟨.exit id,a₁,w₁,hq,λk' hk=>h0.trans (harr.1 k' (by simpa [exitTo]using hk)),λhr' hk=>let⟨k₁,h1,h2⟩:=harr.2 hr' (by simpa [exitTo]using hk);⟨k₁,h1,h0.trans h2⟩⟩
 | goto l=>exact hq.elim
 | ret=>exact⟨_,a₁,w₁,hq,.of_steps h0 harr⟩
 | panic ch=>exact⟨_,a₁,w₁,hq,.of_steps h0 harr⟩
 | outgrown=>exact⟨_,a₁,w₁,hq,.of_steps h0 harr⟩
theorem pI{l:Nat}{r:Loop}(fn:FuncId)(tmps:Array Value)(ps:Array Tmp)(assign body:Code)(h:w.heap[l]? = some (.loop r)) :
 (Instr.enterLoop fn tmps ps assign body (some l)).run P w =
   .ok (w.heap.size,[]) (w.alloc (.loop { state:=.ready,pending:=none,fn,tmps,params:=ps,assign,body,defers:=r.defers })):=by
 unfold Instr.enterLoop;simp only[Sem.run_bind,run_getLoop h,run_newObj_alloc,Result.andThen,Sem.run_pure,World.size_alloc]
end
section
variable{P:Program}{T:fb}(hT:fF P T){cfg:cG}{code:bg->Code->St->Option (AX×St)}(hcode:wI P cfg code)(hll:nj code)
include hT hcode hll
theorem Bb{D:Nat->Prop}{m:Nat->bq}{a:Act}{w:World}(hi:dV cfg D m C st.o w)(ht:TR D m st a){e:Nat×aC×List Nat}(h:ph C st=some e)(fn:FuncId)(ps:Array Tmp)(assign body:Code) :
 ∃D1 m1 w1 mark,(Instr.enterLoop fn a.tmps ps assign body (vL m st.ro)).run P w=.ok ((m1 (e.2.1.next C)).blk,mark) w1/\D1 (e.2.1.next C)/\
  dk cfg C D m st.o w D1 m1 (e.2.1.push (.loop ⟨.ready,none,st.ts,st.tn,ps,assign,body,e.1⟩)) w1/\mark++a.defers=gH m1 e.2.2/\∀d∈e.2.2,D1 d:=by
 have lay:∀{D0:Nat->Prop} {m0:Nat->bq} {o0:aC} {w0:World} {d:Nat},dk cfg C D m st.o w D0 m0 o0 w0->D0 d->
  dk cfg C D m st.o w (wV D0 (C.lo+o0.n)) (zm m0 (C.lo+o0.n) ⟨w0.heap.size,0,0⟩) (o0.push (.loop ⟨.ready,none,st.ts,st.tn,ps,assign,body,d⟩))
   (w0.alloc (.loop { state:=.ready,pending:=none,fn,tmps:=a.tmps,params:=ps,assign,body,defers:=(m0 d).blk })):=by
  intro D0 m0 o0 w0 d hx hd;refine hx.trans (dk.alloc hx.inv (by simp) (λk hk=>Below.heap_alloc _ _ k hk) (Nat.le_refl _) ?_ rfl rfl rfl);have ht0:=ht.mono hx.sub hx.same;exact⟨fn,a.tmps,World.alloc_heap_new w0 _,⟨ht0.size,ht0.at',ht0.okt,hd⟩⟩
 unfold ph at h;cases hro:st.ro with
 | none=>
   rw[hro]at h;cases h;have h1:dk cfg C D m st.o w (wV D (C.lo+st.o.n)) (zm m (C.lo+st.o.n) ⟨w.heap.size,0,0⟩) (st.o.push .defs) (w.alloc (.deferred (some []))):=
    dk.alloc hi (by simp) (λk hk=>Below.heap_alloc _ _ k hk) (Nat.le_refl _) (World.alloc_heap_new w _) rfl rfl rfl
   have hd1:wV D (C.lo+st.o.n) (st.o.next C):=.inr rfl;have h2:=lay h1 hd1;have hblk:(zm m (C.lo+st.o.n) ⟨w.heap.size,0,0⟩ (st.o.next C)).blk=w.heap.size:=by
    show(zm m (C.lo+st.o.n) ⟨w.heap.size,0,0⟩ (C.lo+st.o.n)).blk=_;rw[fM]
   rw[hblk]at h2;have hrun:=run_enterLoop_outer (P:=P) (w:=w) fn a.tmps ps assign body;refine⟨_,_,_,[{ target:=.collected w.heap.size,args:=#[] }],?_,.inr rfl,h2,?_,?_⟩
   . show(Instr.enterLoop fn a.tmps ps assign body none).run P w=_;rw[hrun];congr 2
     show w.heap.size+1=(zm _ (C.lo+(st.o.push .defs).n) _ (C.lo+(st.o.push .defs).n)).blk;rw[fM];simp
   . rw[ht.defers];have hs:gH (zm (zm m (C.lo+st.o.n) ⟨w.heap.size,0,0⟩) (C.lo+(st.o.push .defs).n) ⟨(w.alloc (.deferred (some []))).heap.size,0,0⟩) st.ds=gH m st.ds:=iB ht.dsD λi hi'=>by
      have:=hi.lt i hi';rw[qC (by simp only[aC.push];omega),qC (by omega)]
     show _::gH m st.ds=_::gH _ st.ds;rw[hs];congr 2
     show Target.collected w.heap.size=.collected (zm (zm m (C.lo+st.o.n) _) (C.lo+(st.o.push .defs).n) _ (C.lo+st.o.n)).blk;rw[qC (by simp only[aC.push];omega),fM]
   . intro d hd;rcases List.mem_cons.1 hd with rfl|hd
     . exact .inl (.inr rfl)
     . exact .inl (.inl (ht.dsD d hd))
 | some i=>
   rw[hro]at h;simp only[ai,Option.some.injEq]at h;obtain⟨q,hq,rfl⟩:=h;have hdi:=ht.roD i hro;obtain⟨fn0,tmps0,hb,hrel⟩:∃fn tmps,w.heap[(m i).blk]? = some (.loop (eJ m q fn tmps))/\j_ D m q fn tmps:=by
    have:=hi.obj i hdi;rw[gf (ie hq)]at this;exact this
   have h2:=lay (dk.refl hi) hrel.defs;have hrun:=pI (P:=P) fn a.tmps ps assign body hb;refine⟨_,_,_,[],?_,.inr rfl,h2,?_,λd hd=>.inl (ht.dsD d hd)⟩
   . show(Instr.enterLoop fn a.tmps ps assign body (some (m i).blk)).run P w=_;rw[hrun];congr 2
     show w.heap.size=(zm _ (C.lo+st.o.n) _ (C.lo+st.o.n)).blk;rw[fM]
   . rw[ht.defers];show gH m st.ds=gH _ st.ds;exact(iB ht.dsD λi hi'=>by
      have:=hi.lt i hi';exact qC (by omega)).symm
theorem Ja{D:Nat->Prop}{m:Nat->bq}{a:Act}{w:World}(hi:dV cfg D m C st.o w)(ht:TR D m st a){g:Operand}{ps:Array Tmp}{assign body:Code}{r:AX×St}(h:A0 g ps assign body T cfg code C st=some r)
 {Q:Exit->Act->World->Prop} (hq:∀D' m' a' w',TR D' m' r.2 a'->dk cfg C D m st.o w D' m' r.2.o w'->Q (lE r.1) a' w'):(Code.rangeFunc g ps assign body).wpIn (FR (vL m st.ro)) 0 P Q a w:=by
 simp only[A0,ai]at h;obtain⟨gv,hgv,e,he,x,hx,h⟩:=h;simp only[wF,ai,aA,Option.some.injEq]at h;obtain⟨q,hq',hbusy,ax,hax,rfl⟩:=h;obtain⟨hev,hgok⟩:=mI hi ht hgv;refine wpIn_rangeFunc λfn _=>?_;obtain⟨D1,m1,w1,mark,hrun,hl1,hx1,hmk,hds⟩:=Bb (P:=P) hT hcode hll hi ht he fn ps assign body;cases gv<;>simp only[wS,reduceCtorEq]at hx;rename_i f first captured
 rw[ai]at hx;obtain⟨fc,hfc,hx⟩:=hx;have hok1:fN D1 m1 (first++[.yield (e.2.1.next C)]++captured):=by
  have h1:fN D m first/\fN D m captured:=⟨λi hm=>hgok i (by simp[aD,hm]),λi hm=>hgok i (by simp[aD,hm])⟩
  refine eA.2 ⟨eA.2 ⟨h1.1.mono hx1.sub hx1.same,ct.2 ⟨λi hm=>?_,fH⟩⟩,h1.2.mono hx1.sub hx1.same⟩;simp only[aD,List.mem_singleton]at hm;subst hm;exact⟨hl1,Nat.zero_le _⟩
 obtain⟨fn',cc⟩:=fc;obtain⟨hent,hcalls⟩:=rG (P:=P) (cfg:=cfg) (R:=λV w'=>∃D' m',V=aj m' x.1/\db D' m' x.1/\dk cfg C D1 m1 (e.2.1.push (.loop ⟨.ready,none,st.ts,st.tn,ps,assign,body,e.1⟩)) w1 D' m' x.2 w') hT hcode hfc hx hx1.inv hok1
  λD' m' w' hv hxx=>⟨D',m',rfl,hv,hxx⟩
 have hargs:(ap m1 first).toArray++#[Value.func (.yield (m1 (e.2.1.next C)).blk) #[] #[]]++(ap m1 captured).toArray=(ap m1 (first++[.yield (e.2.1.next C)]++captured)).toArray:=by
  simp[lL,ap,aj]
 refine⟨(m1 (e.2.1.next C)).blk,mark,w1,{ target:=.fn (.func f) (ap m1 captured).toArray,args:=(ap m1 first).toArray++#[.func (.yield (m1 (e.2.1.next C)).blk) #[] #[]] },w1,f,(ap m1 (first++[.yield (e.2.1.next C)]++captured)).toArray,w1,hrun,?_,λ_ _=>trivial,?_,λhk=>(by cases hk),?_⟩
 . have e1:ap m first=ap m1 first:=(xP (λi hm=>hgok i (by simp[aD,hm])) hx1.same).symm
   have e2:ap m captured=ap m1 captured:=(xP (λi hm=>hgok i (by simp[aD,hm])) hx1.same).symm;simp only[resolve,hev,aj,Deferred.ofValue,e1,e2];simp[go_sem]
 . simp only[invoke];rw[hargs];exact hent
 . refine CallsIn.mono (Gm hcalls) ?_;rintro e' w3 ⟨v,rfl,D3,m3,rfl,hv3,hx3⟩;have hl3:=hx3.sub _ hl1;have hm3:=hx3.same _ hl1;obtain⟨fn3,tmps3,hb3,hrel3⟩:∃fn tmps,w3.heap[(m3 (e.2.1.next C)).blk]? = some (.loop (eJ m3 q fn tmps))/\j_ D3 m3 q fn tmps:=by
    have:=hx3.inv.obj _ hl3;rw[gf (ie hq')]at this;exact this
   have hlt3:=(Array.getElem?_eq_some_iff.1 hb3).1;have hnb:(eJ m3 q fn3 tmps3).state≠.busy:=by
    show q.state≠.busy;intro hs;rw[hs]at hbusy;cases hbusy
   have hend:=run_endLoop (P:=P) hb3 hnb;have he4:dk cfg C D3 m3 x.2 w3 D3 m3 (eF C x.2 (e.2.1.next C) (.loop ⟨.exhausted,q.pend,q.ts,q.tn,q.params,q.assign,q.body,q.defs⟩)) (w3.putObj (m3 (e.2.1.next C)).blk (.loop { eJ m3 q fn3 tmps3 with state:=.exhausted })):=
    dk.put hx3.inv hl3 (ie hq') rfl (by simp) (λk hk=>World.putObj_heap_other hk) ⟨fn3,tmps3,World.putObj_heap_same hlt3,⟨hrel3.size,hrel3.at',hrel3.okt,hrel3.defs⟩⟩ rfl rfl rfl
   generalize w3.putObj (m3 (e.2.1.next C)).blk (.loop { eJ m3 q fn3 tmps3 with state:=.exhausted })=w4 at hend he4;have hall:=hx1.trans (hx3.trans he4);have ht4:TR D3 m3 ⟨st.ts,st.tn,eF C x.2 (e.2.1.next C) (.loop ⟨.exhausted,q.pend,q.ts,q.tn,q.params,q.assign,q.body,q.defs⟩),e.2.2,st.ro⟩ { a with defers:=mark++a.defers }:=by
    have h0:=(ht.mono hx1.sub hx1.same).mono hx3.sub hx3.same;refine⟨h0.size,h0.at',h0.okt,?_,λd hd=>hx3.sub d (hds d hd),h0.roD⟩;show mark++a.defers=gH m3 e.2.2;rw[hmk,iB hds hx3.same]
   have hfin:=hq D3 m3 _ _ ht4 hall;show ∃jump w₄,(Instr.endLoop (m1 (e.2.1.next C)).blk).run P w3=.ok jump w₄/\_;rw[<-hm3];refine⟨_,_,hend,?_⟩;have hpend:(eJ m3 q fn3 tmps3).pending=q.pend:=rfl;rw[hpend];unfold Fj at hax;split at hax
   . rename_i hp;cases hax;rw[hp];exact hfin
   . rename_i hp;cases hax;rw[hp];exact wpIn_ret hfin
   . rename_i id hp;cases hax;rw[hp];exact wpIn_exit hfin
   . cases hax
end
section
variable{P:Program}{T:fb}(hT:fF P T)(hm:P.follows .mixedOrders){cfg:cG}(hK:rI cfg)(horc:jF P cfg True λC f args o=>cfg.orc f C args o)(hof:b9 cfg λC f args o=>cfg.orc f C args o)
include hT hm hK horc hof
theorem rg:∀n,wI P cfg (eT T cfg n)/\∀C b st r,eT T cfg n C (.loop b) st=some r->∀D m a w,dV cfg D m C st.o w->TR D m st a->∀Q:Exit->Act->World->Prop,
 (∀D' m' a' w',TR D' m' r.2 a'->dk cfg C D m st.o w D' m' r.2.o w'->Q (lE r.1) a' w')->Code.roundsIn (FR (vL m st.ro)) 0 P b Q n a w
 | 0=>⟨λC c st r h=>(by cases h),λC b st r h=>(by cases h)⟩
 | n+1=>by
   obtain⟨ih,ihl⟩:=rg n;have ill:=pC (T:=T) hof n;have frame:∀{C:bg} {c:Code} {st:St} {x:AX×St} {D D':Nat->Prop} {m m':Nat->bq} {a:Act} {w w':World},eT T cfg n C c st=some x->TR D m st a->dk cfg C D m st.o w D' m' x.2.o w'->vL m' x.2.ro=vL m st.ro:=λhx ht he=>by
    rw[(ill _ _ _ _ hx).2,qL ht.roD he.same]
   have hloop:∀C b st r,eT T cfg (n+1) C (.loop b) st=some r->∀D m a w,dV cfg D m C st.o w->TR D m st a->∀Q:Exit->Act->World->Prop,
    (∀D' m' a' w',TR D' m' r.2 a'->dk cfg C D m st.o w D' m' r.2.o w'->Q (lE r.1) a' w')->Code.roundsIn (FR (vL m st.ro)) 0 P b Q (n+1) a w:=by
    intro C b st r h D m a w hi ht Q hq;rw[eT,fJ,Fv]at h;simp only[ai]at h;obtain⟨x,hx,h⟩:=h;rw[roundsIn_succ];refine ih C b st x hx D m a w hi ht _ λD' m' a' w' ht' he=>?_;unfold tM at h;cases hxe:x.1 with
    | normal=>
      rw[hxe]at h;have:=ihl C b x.2 r h D' m' a' w' he.inv ht' Q λD2 m2 a2 w2 ht2 he2=>hq D2 m2 a2 w2 ht2 (he.trans he2);rw[frame hx ht he]at this;exact this
    | exit id=>rw[hxe]at h;cases h;rw[hxe]at hq;exact hq D' m' a' w' ht' he
    | ret=>rw[hxe]at h;cases h;rw[hxe]at hq;exact hq D' m' a' w' ht' he
   refine⟨?_,hloop⟩;intro C c st r h D m a w hi ht Q hq;cases c with
   | loop b=>exact wpIn_loop_rounds (n+1) (hloop C b st r h D m a w hi ht Q hq)
   | skip=>rw[eT,fJ]at h;cases h;exact wpIn_skip (hq D m a w ht (dk.refl hi))
   | label l=>rw[eT,fJ]at h;cases h;exact wpIn_label (hq D m a w ht (dk.refl hi))
   | exit id=>rw[eT,fJ]at h;cases h;exact wpIn_exit (hq D m a w ht (dk.refl hi))
   | ret=>rw[eT,fJ]at h;cases h;exact wpIn_ret (hq D m a w ht (dk.refl hi))
   | seq c1 c2=>
     rw[eT,fJ,Mg]at h;simp only[ai]at h;obtain⟨x,hx,h⟩:=h;refine wpIn_seq (ih C c1 st x hx D m a w hi ht _ λD' m' a' w' ht' he=>?_);unfold tM at h;cases hxe:x.1 with
     | normal=>
       rw[hxe]at h;have:=ih C c2 x.2 r h D' m' a' w' he.inv ht' Q λD2 m2 a2 w2 ht2 he2=>hq D2 m2 a2 w2 ht2 (he.trans he2);rw[frame hx ht he]at this;exact this
     | exit id=>rw[hxe]at h;cases h;rw[hxe]at hq;exact hq D' m' a' w' ht' he
     | ret=>rw[hxe]at h;cases h;rw[hxe]at hq;exact hq D' m' a' w' ht' he
   | cond c c1 c2=>
     rw[eT,fJ,E3]at h;simp only[ai]at h;obtain⟨v,hv,h⟩:=h;obtain⟨h1,_⟩:=mI hi ht hv;unfold LI at h;split at h
     . exact wpIn_cond_true (by rw[h1];simp[aj]) (ih C c1 st r h D m a w hi ht Q hq)
     . exact wpIn_cond_false (by rw[h1];simp[aj]) (ih C c2 st r h D m a w hi ht Q hq)
     . cases h
   | block id b=>
     rw[eT,fJ,AI]at h;simp only[ai,Option.some.injEq]at h;obtain⟨x,hx,rfl⟩:=h;refine wpIn_block (ih C b st x hx D m a w hi ht _ λD' m' a' w' ht' he=>?_);unfold lx at hq;cases hxe:x.1 with
     | normal=>rw[hxe]at hq;simp only at hq;rw[hxe]at hq;exact hq D' m' a' w' ht' he
     | ret=>rw[hxe]at hq;simp only at hq;rw[hxe]at hq;exact hq D' m' a' w' ht' he
     | exit j=>
       rw[hxe]at hq;simp only at hq;by_cases e:j=id
       . rw[gb e,cond_true]at hq;have:=hq D' m' a' w' ht' he;simpa [Exit.inBlock,e,lE]using this
       . rw[g7 e,cond_false]at hq;rw[hxe]at hq;have:=hq D' m' a' w' ht' he;simpa [Exit.inBlock,e,lE]using this
   | scope b=>
     rw[eT,fJ,Ll]at h;refine jU (ih C b st r h D m a w hi ht _ λD' m' a' w' ht' he=>?_);have:=hq D' m' a' w' ht' he;cases hre:r.1<;>rw[hre]at this<;>exact this
   | region id ops draw=>
     rw[eT,fJ,ry]at h;simp only[ai,Option.some.injEq]at h;obtain⟨st',hs,rfl⟩:=h;exact H8 hT hm (yq hT hK ih ill (λh=>by cases h) horc) (xl hof ill) (yq hT hK ih ill (λ_ h=>h) horc) (Hu ih ill) hi ht hs λD' m' a' w' ht' he=>hq D' m' a' w' ht' he
   | rangeFunc g ps assign body=>
     rw[eT,fJ]at h;exact Ja hT ih ill hi ht h hq
   | _=>cases h
theorem Nu(n:Nat):jF P cfg True (kN T cfg false (eT T cfg n)):=yq hT hK (rg hT hm hK horc hof n).1 (pC hof n) (λh=>by cases h) horc
end
end Go.Ev
end
section
namespace Go.Ev
open Go
variable{cfg':cG}{C:bg}{o:aC}{k:IntKind}{op:BinOp}{y:AV}
def Jr(x:Bool):AV->Bool
 | .bool y=>bW x y
 | _=>false
def OI(k:IntKind)(x:Int):AV->Bool
 | .int l y=>gN k l&&aa x y
 | _=>false
def OP(x:List UInt8):AV->Bool
 | .str y=>af x y
 | _=>false
def OT(i o:Nat):AV->Bool
 | .ptr j p=>Nat.beq i j&&Nat.beq o p
 | _=>false
def B0:AV->Bool
 | .nilptr=>true
 | _=>false
def xI:AV->Bool
 | .nilslice=>true
 | _=>false
def xh:AV->Bool
 | .niliface=>true
 | _=>false
def Fx(t:TypeId)(f:AV->Bool):AV->Bool
 | .iface u v=>Nat.beq t u&&f v
 | _=>false
def OM(f:List AV->Bool):AV->Bool
 | .agg vs=>f vs
 | _=>false
def Gt(f:List AV->Bool):AV->Bool
 | .tuple vs=>f vs
 | _=>false
def wK(f:AV->AV->Bool):List AV->List AV->Bool
 | [],[]=>true
 | x::xs,y::ys=>f x y&&wK f xs ys
 | _,_=>false
def B2:Nat->AV->AV->Bool
 | 0,_=>λ_=>false
 | d+1,a=>match a with
   | .bool x=>Jr x
   | .int k x=>OI k x
   | .str x=>OP x
   | .ptr i o=>OT i o
   | .nilptr=>B0
   | .nilslice=>xI
   | .niliface=>xh
   | .iface t v=>Fx t (B2 d v)
   | .agg xs=>OM (wK (B2 d) xs)
   | .tuple xs=>Gt (wK (B2 d) xs)
   | _=>λ_=>false
theorem sh{f:AV->AV->Bool}(hf:∀a b,f a b->a=b):∀{xs ys:List AV},wK f xs ys->xs=ys
 | [],[],_=>rfl
 | x::xs,y::ys,h=>by
   rw[wK,Bool.and_eq_true]at h;rw[hf x y h.1,sh hf h.2]
 | [],_::_,h=>by cases h
 | _::_,[],h=>by cases h
theorem Br:∀(d:Nat) (a b:AV),B2 d a b->a=b
 | 0,a,b,h=>by cases h
 | d+1,a,b,h=>by
   have ih:=Br d;unfold B2 at h;cases a<;>simp only[Bool.false_eq_true]at h
   case bool x=>cases b<;>simp only[Jr,Bool.false_eq_true,mO,beq_iff_eq]at h;rw[h]
   case int k x=>
    cases b<;>simp only[OI,Bool.false_eq_true,Bool.and_eq_true,ic,po]at h;rw[h.1,h.2]
   case str x=>cases b<;>simp only[OP,Bool.false_eq_true,bX,beq_iff_eq]at h;rw[h]
   case ptr i o=>
    cases b<;>simp only[OT,Bool.false_eq_true,Bool.and_eq_true,cO]at h;rw[h.1,h.2]
   case nilptr=>cases b<;>simp only[B0,Bool.false_eq_true]at h;rfl
   case nilslice=>cases b<;>simp only[xI,Bool.false_eq_true]at h;rfl
   case niliface=>cases b<;>simp only[xh,Bool.false_eq_true]at h;rfl
   case iface t v=>
    cases b<;>simp only[Fx,Bool.false_eq_true,Bool.and_eq_true,cO]at h;rw[h.1,ih _ _ h.2]
   case agg xs=>cases b<;>simp only[OM,Bool.false_eq_true]at h;rw[sh ih h]
   case tuple xs=>cases b<;>simp only[Gt,Bool.false_eq_true]at h;rw[sh ih h]
def gF(P:Program)(cfg:cG)(f:FuncId)(args:List AV)(v:AV):Prop:=∀C D m o w,dV cfg D m C o w->fN D m args->
 jX P f (ap m args).toArray w λV w'=>V=aj m v/\db D m v/\dk cfg C D m o w D m o w'/\ni D w D m w'
structure mE(P:Program)(T:fb)(cfg:cG):Prop where
 tab:fF P T
 mixed:P.follows .mixedOrders=true
 lv:rI cfg
 orc:jF P cfg True λC f args o=>cfg.orc f C args o
 foot:b9 cfg λC f args o=>cfg.orc f C args o
theorem dV.to{cfg:cG}(hG:cfg'.G=cfg.G)(hr:cfg'.root=cfg.root){D:Nat->Prop}{m:Nat->bq}{w:World}(h:dV cfg D m C o w):dV cfg' D m C o w:=
 ⟨h.obj,h.inj,h.lt,by rw[hG];exact h.glob,by rw[hr];exact h.root,by rw[hr];exact h.le,by rw[hr];exact h.lo,h.len⟩
theorem dk.to{cfg:cG}(hG:cfg'.G=cfg.G)(hr:cfg'.root=cfg.root){D D':Nat->Prop}{m m':Nat->bq}{o':aC}{w w':World}(h:dk cfg C D m o w D' m' o' w'):dk cfg' C D m o w D' m' o' w':=
 ⟨h.inv.to hG hr,h.sub,h.same,h.new,h.grow,h.os,h.tape,h.output,h.size,h.frame,h.leIds,h.fresh⟩
def Z_(v:AV):Option AV->Bool
 | some x=>B2 8 x v
 | none=>false
def Oy(T:fb)(cfg:cG)(n:Nat)(args:List AV)(fc:Func×Code):Option AV:=z_ T cfg (eT T cfg n) fc.1 fc.2 args
def lF(T:fb)(cfg:cG)(n:Nat)(f:FuncId)(args:List AV)(v:AV):Bool:=bw cfg.root.n args&&Z_ v (ob (bh T f) (Oy T cfg n args))
theorem mE.fact{P:Program}{T:fb}{cfg:cG}(g:mE P T cfg)(n:Nat){f:FuncId}{args:List AV}{v:AV}(h:lF T cfg n f args v):gF P cfg f args v:=by
 intro C D m o w hi hok;rw[lF,Bool.and_eq_true]at h;obtain⟨hb,h⟩:=h;cases hx:ob (bh T f) (Oy T cfg n args)with
 | none=>rw[hx]at h;cases h
 | some x=>
   rw[hx]at h;have e:=Br 8 x v h;subst e;rw[ai]at hx;obtain⟨⟨fn,c⟩,hbo,hc⟩:=hx;exact xK g.tab g.lv (rg g.tab g.mixed g.lv g.orc g.foot n).1 (pC g.foot n) hbo hb hc hi hok
inductive Tr(R:Type) where
 | ret (a:R)
 | fail
 | test (b:Bool) (k:Bool->Tr R)
 | pickN (i:Nat) (k:Nat->Tr R)
 | all (k:(Nat->Value)->Tr R)
def Tr.run{R:Type}:Tr R->Option R
 | .ret a=>some a
 | .fail=>none
 | .test b k=>(k b).run
 | .pickN i k=>(k i).run
 | .all _=>none
def Tr.bind{R S:Type}:Tr R->(R->Tr S)->Tr S
 | .ret a,K=>K a
 | .fail,_=>.fail
 | .test b k,K=>.test b λd=>(k d).bind K
 | .pickN i k,K=>.pickN i λd=>(k d).bind K
 | .all _,_=>.fail
theorem Tr.run_bind{R S:Type}{K:R->Tr S}{s:S}:∀{t:Tr R},(t.bind K).run=some s->∃a,t.run=some a/\(K a).run=some s
 | .ret a,h=>⟨a,rfl,h⟩
 | .fail,h=>by cases h
 | .test b k,h=>Tr.run_bind (t:=k b) h
 | .pickN i k,h=>Tr.run_bind (t:=k i) h
 | .all k,h=>by cases h
def Tr.wp{R:Type}(Q:R->Prop):Tr R->Prop
 | .ret a=>Q a
 | .fail=>False
 | .test b k=>(k b).wp Q
 | .pickN i k=>(k i).wp Q
 | .all k=>∀J,(k J).wp Q
def Tr.then{R S:Type}:Tr R->(R->Tr S)->Tr S
 | .ret a,K=>K a
 | .fail,_=>.fail
 | .test b k,K=>.test b λd=>(k d).then K
 | .pickN i k,K=>.pickN i λd=>(k d).then K
 | .all k,K=>.all λJ=>(k J).then K
theorem Tr.wp_bind{R S:Type}{K:R->Tr S}{Q:S->Prop}:∀{t:Tr R},(t.bind K).wp Q->∃a,t.run=some a/\(K a).wp Q
 | .ret a,h=>⟨a,rfl,h⟩
 | .fail,h=>h.elim
 | .test b k,h=>Tr.wp_bind (t:=k b) h
 | .pickN i k,h=>Tr.wp_bind (t:=k i) h
 | .all k,h=>h.elim
theorem Tr.wp_then{R S:Type}{K:R->Tr S}{Q:S->Prop}:∀{t:Tr R},(t.then K).wp Q->t.wp λa=>(K a).wp Q
 | .ret a,h=>h
 | .fail,h=>h
 | .test b k,h=>Tr.wp_then (t:=k b) h
 | .pickN i k,h=>Tr.wp_then (t:=k i) h
 | .all k,h=>λJ=>Tr.wp_then (t:=k J) (h J)
theorem Tr.wp_mono{R:Type}{Q Q':R->Prop}(hq:∀a,Q a->Q' a):∀{t:Tr R},t.wp Q->t.wp Q'
 | .ret a,h=>hq a h
 | .fail,h=>h
 | .test b k,h=>Tr.wp_mono hq (t:=k b) h
 | .pickN i k,h=>Tr.wp_mono hq (t:=k i) h
 | .all k,h=>λJ=>Tr.wp_mono hq (t:=k J) (h J)
section
variable{R:Type}
def aU{α:Type}(x:Option α)(K:α->Tr R):Tr R:=match x with
 | some a=>K a
 | none=>.fail
def fI(b:Bool)(t:Tr R):Tr R:=.test b λd=>bif d then t else .fail
theorem ar{α:Type}{x:Option α}{K:α->Tr R}{s:R}(h:(aU x K).run=some s):∃a,x=some a/\(K a).run=some s:=by
 cases x with
 | none=>cases h
 | some a=>exact⟨a,rfl,h⟩
theorem bE{b:Bool}{t:Tr R}{s:R}(h:(fI b t).run=some s):b/\t.run=some s:=by
 cases b with
 | true=>exact⟨rfl,h⟩
 | false=>cases h
theorem c_{b:Bool}{t:Tr R}{s:R}(h:(bif b then t else Tr.fail).run=some s):b/\t.run=some s:=by
 cases b with
 | true=>exact⟨rfl,h⟩
 | false=>cases h
def ae(k:IntKind)(n:Int):Bool:=ab (dP k) n&&ab n (dR k)
def mU(k:IntKind)(n:Int)(K:AV->Tr R):Tr R:=.test (ae k n) λb=>bif b then K (.int k n)else K (.int k (k.wrap n))
theorem qn{n:Int}{K:AV->Tr R}{s:R}(h:(mU k n K).run=some s):∃v,iN k n=some v/\(K v).run=some s:=by
 unfold mU at h;simp only[Tr.run]at h;rw[iN,kU,Cb];cases hb:ae k n with
 | true=>rw[hb,cond_true]at h;unfold ae at hb;exact⟨_,by rw[hb];rfl,h⟩
 | false=>rw[hb,cond_false]at h;unfold ae at hb;exact⟨_,by rw[hb];rfl,h⟩
def IY(k:IntKind)(n:Nat)(K:AV->Tr R):Tr R:=fI (ae k (.ofNat n)) (K (.int k (.ofNat n)))
theorem qO{n:Nat}{K:AV->Tr R}{s:R}(h:(IY k n K).run=some s):∃v,iN k n=some v/\(K v).run=some s:=by
 obtain⟨h1,h2⟩:=bE h;refine⟨_,?_,h2⟩;unfold ae at h1;rw[iN,kU,Cb,show((n:Nat):Int)=Int.ofNat n from rfl,h1];rfl
abbrev Eb(R:Type):Type:=IntKind->Int->Int->(AV->Tr R)->Tr R
def Vs:Eb R:=λk a b K=>mU k (Int.add a b) K
def Wc:Eb R:=λk a b K=>mU k (Int.sub a b) K
def V5:Eb R:=λk a b K=>mU k (Int.mul a b) K
def Tk:Eb R:=λk a b K=>fI (!(aa b 0)) (mU k (Int.tdiv a b) K)
def TF:Eb R:=λk a b K=>fI (!(aa b 0)) (K (.int k (Int.tmod a b)))
def ol(f:nA):Eb R:=λk a b K=>aU (f k a b) K
def Bk:BinOp->Eb R
 | .add=>Vs
 | .sub=>Wc
 | .mul=>V5
 | .quo=>Tk
 | .rem=>TF
 | .and=>λk x y K=>IY k (BitVec.ofInt k.bits x &&& BitVec.ofInt k.bits y).toNat K
 | .or=>λk x y K=>IY k (BitVec.ofInt k.bits x ||| BitVec.ofInt k.bits y).toNat K
 | .xor=>λk x y K=>IY k (BitVec.ofInt k.bits x ^^^ BitVec.ofInt k.bits y).toNat K
 | .andNot=>λk x y K=>IY k (BitVec.ofInt k.bits x &&& ~~~BitVec.ofInt k.bits y).toNat K
 | .eql=>ol RA
 | .neq=>ol PP
 | .lss=>ol SS
 | .leq=>ol Qh
 | .gtr=>ol Sx
 | .geq=>ol SJ
 | .shl=>ol Ce
 | .shr=>ol Ce
theorem BP{a b:Int}{K:AV->Tr R}{s:R}(h:(Bk op k a b K).run=some s):∃v,A3 op k a b=some v/\(K v).run=some s:=by
 have mk:∀{n:Int},(mU k n K).run=some s->∃v,iN k n=some v/\(K v).run=some s:=qn;cases op<;>simp only[Bk,A3]at h ⊢
 case add=>exact mk h
 case sub=>exact mk h
 case mul=>exact mk h
 case quo=>
  obtain⟨h1,h2⟩:=bE h;obtain⟨v,h3,h4⟩:=mk h2;exact⟨v,by rw[QG,h1];exact h3,h4⟩
 case rem=>
  obtain⟨h1,h2⟩:=bE h;exact⟨_,by rw[Rz,h1,kU];rfl,h2⟩
 case and=>exact qO h
 case or=>exact qO h
 case xor=>exact qO h
 case andNot=>exact qO h
 all_goals exact ar h
def KQ(op:BinOp)(k:IntKind)(a:Int)(y:AV)(K:AV->Tr R):Tr R:=match y with
 | .int k' b=>bif oR op then aU (DV op k a b) K else bif gN k k' then Bk op k a b K else .fail
 | _=>.fail
theorem Ht{a:Int}{K:AV->Tr R}{s:R}(h:(KQ op k a y K).run=some s):∃v,Km op k a y=some v/\(K v).run=some s:=by
 cases y<;>simp only[KQ]at h<;>first|(cases h;done)|skip
 simp only[Km];cases hs:oR op with
 | true=>rw[hs]at h;exact ar h
 | false=>
   rw[hs]at h;simp only[cond_false]at h ⊢;obtain⟨h1,h2⟩:=c_ h;rw[h1];exact BP h2
def IR(op:BinOp)(a:List UInt8)(y:AV)(K:AV->Tr R):Tr R:=match y with
 | .str b=>match op with
   | .add=>fI (Nat.ble (a.length+b.length) 1000000) (K (.str (a++b)))
   | op=>aU (Sf op (rt a b) (af a b)) K
 | _=>.fail
theorem GN{a:List UInt8}{K:AV->Tr R}{s:R}(h:(IR op a y K).run=some s):∃v,L8 op a y=some v/\(K v).run=some s:=by
 cases y<;>simp only[IR]at h<;>first|(cases h;done)|skip
 cases op<;>simp only[L8]at h ⊢
 case add=>
  obtain⟨h1,h2⟩:=bE h;exact⟨_,by rw[h1];rfl,h2⟩
 all_goals exact ar h
end
end Go.Ev
end
