import Derived.Test.YtoghlpcacfnjbaaGreatDoorP11
set_option linter.all false
set_option maxRecDepth 100000
set_option maxHeartbeats 4000000
section
namespace Go.Ev
open Go Go.RowKit
variable{c:Code}{C:bg}{st:St}
section
variable{P:Program}{b:Frame}{a:Act}{k:List Item}{cs:List Frame}{w:World}{Q:Exit->Act->World->Prop}
theorem D_:step P (lone (b.atR a (.code (.scope c)::k)) cs w)=.next (lone (b.atR a (.code c::.inScope c::k)) cs w):=
 step_lone_go (by simp[stepG,stepG.exec,Frame.atR])
theorem zx:step P (lone (b.atR a (.inScope c::k)) cs w)=.next (lone (b.atR a k) cs w):=
 step_lone_go (by simp[stepG,stepG.exec,Frame.atR])
theorem jX{x:Option Nat}(h:c.wpIn (FR x) 0 P (Exit.noGoto Q) a w):(Code.scope c).wpIn (FR x) 0 P Q a w:=by
 intro b k cs hro hb hr;obtain⟨e,a₁,w₁,hq,harr⟩:=h b (.inScope c::k) cs hro hb hr;have h0:StepsIn (Machine.fenced P (FR x)) P (lone (b.atR a (.code (.scope c)::k)) cs w) (lone (b.atR a (.code c::.inScope c::k)) cs w):=.one (fenced_calm (fr:=b.atR a (.code (.scope c)::k)) hb hr rfl) D_;cases e with
 | normal=>exact⟨.normal,a₁,w₁,hq,h0.trans (StepsIn.trans harr (.one (fenced_calm (fr:=b.atR a₁ (.inScope c::k)) hb hr rfl) zx))⟩
 | exit id=>
   exact⟨.exit id,a₁,w₁,hq,λk' hk=>h0.trans (harr.1 k' (by simpa [exitTo]using hk)),λhr' hk=>let⟨k₁,h1,h2⟩:=harr.2 hr' (by simpa [exitTo]using hk);⟨k₁,h1,h0.trans h2⟩⟩
 | goto l=>exact hq.elim
 | ret=>exact⟨_,a₁,w₁,hq,.of_steps h0 harr⟩
 | panic ch=>exact⟨_,a₁,w₁,hq,.of_steps h0 harr⟩
 | outgrown=>exact⟨_,a₁,w₁,hq,.of_steps h0 harr⟩
theorem pY{l:Nat}{r:Loop}(fn:FuncId)(tmps:Array Value)(ps:Array Tmp)(assign body:Code)(h:w.heap[l]? = some (.loop r)) :
 (Instr.enterLoop fn tmps ps assign body (some l)).run P w =
   .ok (w.heap.size,[]) (w.alloc (.loop { state:=.ready,pending:=none,fn,tmps,params:=ps,assign,body,defers:=r.defers })):=by
 unfold Instr.enterLoop;simp only[Sem.run_bind,run_getLoop h,run_newObj_alloc,Result.andThen,Sem.run_pure,World.size_alloc]
end
section
variable{P:Program}{T:fm}(hT:fH P T){cfg:cL}{code:bg->Code->St->Option (AX×St)}(hcode:y6 P cfg code)(hll:mQ code)
include hT hcode hll
theorem BH{D:Nat->Prop}{m:Nat->bv}{a:Act}{w:World}(hi:dX cfg D m C st.o w)(ht:TR D m st a){e:Nat×aB×List Nat}(h:pi C st=some e)(fn:FuncId)(ps:Array Tmp)(assign body:Code) :
 ∃D1 m1 w1 mark,(Instr.enterLoop fn a.tmps ps assign body (wo m st.ro)).run P w=.ok ((m1 (e.2.1.a0 C)).a0,mark) w1/\D1 (e.2.1.a0 C)/\
  dw cfg C D m st.o w D1 m1 (e.2.1.b0 (.c ⟨.ready,none,st.ts,st.tn,ps,assign,body,e.1⟩)) w1/\mark++a.defers=gJ m1 e.2.2/\∀d∈e.2.2,D1 d:=by
 have lay:∀{D0:Nat->Prop} {m0:Nat->bv} {o0:aB} {w0:World} {d:Nat},dw cfg C D m st.o w D0 m0 o0 w0->D0 d->
  dw cfg C D m st.o w (xD D0 (C.lo+o0.n)) (AT m0 (C.lo+o0.n) ⟨w0.heap.size,0,0⟩) (o0.b0 (.c ⟨.ready,none,st.ts,st.tn,ps,assign,body,d⟩))
   (w0.alloc (.loop { state:=.ready,pending:=none,fn,tmps:=a.tmps,params:=ps,assign,body,defers:=(m0 d).a0 })):=by
  intro D0 m0 o0 w0 d hx hd;refine hx.c0 (dw.o0 hx.b0 (by simp) (λk hk=>Below.heap_alloc _ _ k hk) (Nat.le_refl _) ?_ rfl rfl rfl);have ht0:=ht.g0 hx.f0 hx.a0;exact⟨fn,a.tmps,World.alloc_heap_new w0 _,⟨ht0.b0,ht0.d0,ht0.c0,hd⟩⟩
 unfold pi at h;cases hro:st.ro with
 | none=>
   rw[hro]at h;cases h;have h1:dw cfg C D m st.o w (xD D (C.lo+st.o.n)) (AT m (C.lo+st.o.n) ⟨w.heap.size,0,0⟩) (st.o.b0 .e) (w.alloc (.deferred (some []))):=
    dw.o0 hi (by simp) (λk hk=>Below.heap_alloc _ _ k hk) (Nat.le_refl _) (World.alloc_heap_new w _) rfl rfl rfl
   have hd1:xD D (C.lo+st.o.n) (st.o.a0 C):=.inr rfl;have h2:=lay h1 hd1;have hblk:(AT m (C.lo+st.o.n) ⟨w.heap.size,0,0⟩ (st.o.a0 C)).a0=w.heap.size:=by
    show(AT m (C.lo+st.o.n) ⟨w.heap.size,0,0⟩ (C.lo+st.o.n)).a0=_;rw[fJ]
   rw[hblk]at h2;have hrun:=run_enterLoop_outer (P:=P) (w:=w) fn a.tmps ps assign body;refine⟨_,_,_,[{ target:=.collected w.heap.size,args:=#[] }],?_,.inr rfl,h2,?_,?_⟩
   . show(Instr.enterLoop fn a.tmps ps assign body none).run P w=_;rw[hrun];congr 2
     show w.heap.size+1=(AT _ (C.lo+(st.o.b0 .e).n) _ (C.lo+(st.o.b0 .e).n)).a0;rw[fJ];simp
   . rw[ht.a0];have hs:gJ (AT (AT m (C.lo+st.o.n) ⟨w.heap.size,0,0⟩) (C.lo+(st.o.b0 .e).n) ⟨(w.alloc (.deferred (some []))).heap.size,0,0⟩) st.ds=gJ m st.ds:=iK ht.e0 λi hi'=>by
      have:=hi.lt i hi';rw[qE (by simp only[aB.b0];omega),qE (by omega)]
     show _::gJ m st.ds=_::gJ _ st.ds;rw[hs];congr 2
     show Target.collected w.heap.size=.collected (AT (AT m (C.lo+st.o.n) _) (C.lo+(st.o.b0 .e).n) _ (C.lo+st.o.n)).a0;rw[qE (by simp only[aB.b0];omega),fJ]
   . intro d hd;rcases List.mem_cons.1 hd with rfl|hd
     . exact .inl (.inr rfl)
     . exact .inl (.inl (ht.e0 d hd))
 | some i=>
   rw[hro]at h;simp only[ag,Option.some.injEq]at h;obtain⟨q,hq,rfl⟩:=h;have hdi:=ht.f0 i hro;obtain⟨fn0,tmps0,hb,hrel⟩:∃fn tmps,w.heap[(m i).a0]? = some (.loop (eR m q fn tmps))/\j_ D m q fn tmps:=by
    have:=hi.a0 i hdi;rw[fI (im hq)]at this;exact this
   have h2:=lay (dw.e0 hi) hrel.a0;have hrun:=pY (P:=P) fn a.tmps ps assign body hb;refine⟨_,_,_,[],?_,.inr rfl,h2,?_,λd hd=>.inl (ht.e0 d hd)⟩
   . show(Instr.enterLoop fn a.tmps ps assign body (some (m i).a0)).run P w=_;rw[hrun];congr 2
     show w.heap.size=(AT _ (C.lo+st.o.n) _ (C.lo+st.o.n)).a0;rw[fJ]
   . rw[ht.a0];show gJ m st.ds=gJ _ st.ds;exact(iK ht.e0 λi hi'=>by
      have:=hi.lt i hi';exact qE (by omega)).symm
theorem Lj{D:Nat->Prop}{m:Nat->bv}{a:Act}{w:World}(hi:dX cfg D m C st.o w)(ht:TR D m st a){g:Operand}{ps:Array Tmp}{assign body:Code}{r:AX×St}(h:Bj g ps assign body T cfg code C st=some r)
 {Q:Exit->Act->World->Prop} (hq:∀D' m' a' w',TR D' m' r.2 a'->dw cfg C D m st.o w D' m' r.2.o w'->Q (lH r.1) a' w'):(Code.rangeFunc g ps assign body).wpIn (FR (wo m st.ro)) 0 P Q a w:=by
 simp only[Bj,ag]at h;obtain⟨gv,hgv,e,he,x,hx,h⟩:=h;simp only[xX,ag,aA,Option.some.injEq]at h;obtain⟨q,hq',hbusy,ax,hax,rfl⟩:=h;obtain⟨hev,hgok⟩:=mM hi ht hgv;refine wpIn_rangeFunc λfn _=>?_;obtain⟨D1,m1,w1,mark,hrun,hl1,hx1,hmk,hds⟩:=BH (P:=P) hT hcode hll hi ht he fn ps assign body;cases gv<;>simp only[yv,reduceCtorEq]at hx;rename_i f first captured
 rw[ag]at hx;obtain⟨fc,hfc,hx⟩:=hx;have hok1:fM D1 m1 (first++[.m (e.2.1.a0 C)]++captured):=by
  have h1:fM D m first/\fM D m captured:=⟨λi hm=>hgok i (by simp[aC,hm]),λi hm=>hgok i (by simp[aC,hm])⟩
  refine ex.2 ⟨ex.2 ⟨h1.1.a0 hx1.f0 hx1.a0,ct.2 ⟨λi hm=>?_,fQ⟩⟩,h1.2.a0 hx1.f0 hx1.a0⟩;simp only[aC,List.mem_singleton]at hm;subst hm;exact⟨hl1,Nat.zero_le _⟩
 obtain⟨fn',cc⟩:=fc;obtain⟨hent,hcalls⟩:=rR (P:=P) (cfg:=cfg) (R:=λV w'=>∃D' m',V=aj m' x.1/\dh D' m' x.1/\dw cfg C D1 m1 (e.2.1.b0 (.c ⟨.ready,none,st.ts,st.tn,ps,assign,body,e.1⟩)) w1 D' m' x.2 w') hT hcode hfc hx hx1.b0 hok1
  λD' m' w' hv hxx=>⟨D',m',rfl,hv,hxx⟩
 have hargs:(ap m1 first).toArray++#[Value.func (.yield (m1 (e.2.1.a0 C)).a0) #[] #[]]++(ap m1 captured).toArray=(ap m1 (first++[.m (e.2.1.a0 C)]++captured)).toArray:=by
  simp[mF,ap,aj]
 refine⟨(m1 (e.2.1.a0 C)).a0,mark,w1,{ target:=.fn (.func f) (ap m1 captured).toArray,args:=(ap m1 first).toArray++#[.func (.yield (m1 (e.2.1.a0 C)).a0) #[] #[]] },w1,f,(ap m1 (first++[.m (e.2.1.a0 C)]++captured)).toArray,w1,hrun,?_,λ_ _=>trivial,?_,λhk=>(by cases hk),?_⟩
 . have e1:ap m first=ap m1 first:=(yd (λi hm=>hgok i (by simp[aC,hm])) hx1.a0).symm
   have e2:ap m captured=ap m1 captured:=(yd (λi hm=>hgok i (by simp[aC,hm])) hx1.a0).symm;simp only[resolve,hev,aj,Deferred.ofValue,e1,e2];simp[go_sem]
 . simp only[invoke];rw[hargs];exact hent
 . refine CallsIn.mono (GA hcalls) ?_;rintro e' w3 ⟨v,rfl,D3,m3,rfl,hv3,hx3⟩;have hl3:=hx3.f0 _ hl1;have hm3:=hx3.a0 _ hl1;obtain⟨fn3,tmps3,hb3,hrel3⟩:∃fn tmps,w3.heap[(m3 (e.2.1.a0 C)).a0]? = some (.loop (eR m3 q fn tmps))/\j_ D3 m3 q fn tmps:=by
    have:=hx3.b0.a0 _ hl3;rw[fI (im hq')]at this;exact this
   have hlt3:=(Array.getElem?_eq_some_iff.1 hb3).1;have hnb:(eR m3 q fn3 tmps3).state≠.busy:=by
    show q.f0≠.busy;intro hs;rw[hs]at hbusy;cases hbusy
   have hend:=run_endLoop (P:=P) hb3 hnb;have he4:dw cfg C D3 m3 x.2 w3 D3 m3 (ea C x.2 (e.2.1.a0 C) (.c ⟨.exhausted,q.e0,q.ts,q.tn,q.b0,q.a0,q.d0,q.c0⟩)) (w3.putObj (m3 (e.2.1.a0 C)).a0 (.loop { eR m3 q fn3 tmps3 with state:=.exhausted })):=
    dw.n0 hx3.b0 hl3 (im hq') rfl (by simp) (λk hk=>World.putObj_heap_other hk) ⟨fn3,tmps3,World.putObj_heap_same hlt3,⟨hrel3.b0,hrel3.d0,hrel3.c0,hrel3.a0⟩⟩ rfl rfl rfl
   generalize w3.putObj (m3 (e.2.1.a0 C)).a0 (.loop { eR m3 q fn3 tmps3 with state:=.exhausted })=w4 at hend he4;have hall:=hx1.c0 (hx3.c0 he4);have ht4:TR D3 m3 ⟨st.ts,st.tn,ea C x.2 (e.2.1.a0 C) (.c ⟨.exhausted,q.e0,q.ts,q.tn,q.b0,q.a0,q.d0,q.c0⟩),e.2.2,st.ro⟩ { a with defers:=mark++a.defers }:=by
    have h0:=(ht.g0 hx1.f0 hx1.a0).g0 hx3.f0 hx3.a0;refine⟨h0.b0,h0.d0,h0.c0,?_,λd hd=>hx3.f0 d (hds d hd),h0.f0⟩;show mark++a.defers=gJ m3 e.2.2;rw[hmk,iK hds hx3.a0]
   have hfin:=hq D3 m3 _ _ ht4 hall;show ∃jump w₄,(Instr.endLoop (m1 (e.2.1.a0 C)).a0).run P w3=.ok jump w₄/\_;rw[<-hm3];refine⟨_,_,hend,?_⟩;have hpend:(eR m3 q fn3 tmps3).pending=q.e0:=rfl;rw[hpend];unfold Hn at hax;split at hax
   . rename_i hp;cases hax;rw[hp];exact hfin
   . rename_i hp;cases hax;rw[hp];exact wpIn_ret hfin
   . rename_i id hp;cases hax;rw[hp];exact wpIn_exit hfin
   . cases hax
end
section
variable{P:Program}{T:fm}(hT:fH P T)(hm:P.follows .mixedOrders){cfg:cL}(hK:qX cfg)(horc:jH P cfg True λC f args o=>cfg.c0 f C args o)(hof:b8 cfg λC f args o=>cfg.c0 f C args o)
include hT hm hK horc hof
theorem rv:∀n,y6 P cfg (eZ T cfg n)/\∀C b st r,eZ T cfg n C (.loop b) st=some r->∀D m a w,dX cfg D m C st.o w->TR D m st a->∀Q:Exit->Act->World->Prop,
 (∀D' m' a' w',TR D' m' r.2 a'->dw cfg C D m st.o w D' m' r.2.o w'->Q (lH r.1) a' w')->Code.roundsIn (FR (wo m st.ro)) 0 P b Q n a w
 | 0=>⟨λC c st r h=>(by cases h),λC b st r h=>(by cases h)⟩
 | n+1=>by
   obtain⟨ih,ihl⟩:=rv n;have ill:=px (T:=T) hof n;have frame:∀{C:bg} {c:Code} {st:St} {x:AX×St} {D D':Nat->Prop} {m m':Nat->bv} {a:Act} {w w':World},eZ T cfg n C c st=some x->TR D m st a->dw cfg C D m st.o w D' m' x.2.o w'->wo m' x.2.ro=wo m st.ro:=λhx ht he=>by
    rw[(ill _ _ _ _ hx).2,rh ht.f0 he.a0]
   have hloop:∀C b st r,eZ T cfg (n+1) C (.loop b) st=some r->∀D m a w,dX cfg D m C st.o w->TR D m st a->∀Q:Exit->Act->World->Prop,
    (∀D' m' a' w',TR D' m' r.2 a'->dw cfg C D m st.o w D' m' r.2.o w'->Q (lH r.1) a' w')->Code.roundsIn (FR (wo m st.ro)) 0 P b Q (n+1) a w:=by
    intro C b st r h D m a w hi ht Q hq;rw[eZ,fN,G2]at h;simp only[ag]at h;obtain⟨x,hx,h⟩:=h;rw[roundsIn_succ];refine ih C b st x hx D m a w hi ht _ λD' m' a' w' ht' he=>?_;unfold v_ at h;cases hxe:x.1 with
    | a=>
      rw[hxe]at h;have:=ihl C b x.2 r h D' m' a' w' he.b0 ht' Q λD2 m2 a2 w2 ht2 he2=>hq D2 m2 a2 w2 ht2 (he.c0 he2);rw[frame hx ht he]at this;exact this
    | b id=>rw[hxe]at h;cases h;rw[hxe]at hq;exact hq D' m' a' w' ht' he
    | c=>rw[hxe]at h;cases h;rw[hxe]at hq;exact hq D' m' a' w' ht' he
   refine⟨?_,hloop⟩;intro C c st r h D m a w hi ht Q hq;cases c with
   | loop b=>exact wpIn_loop_rounds (n+1) (hloop C b st r h D m a w hi ht Q hq)
   | skip=>rw[eZ,fN]at h;cases h;exact wpIn_skip (hq D m a w ht (dw.e0 hi))
   | label l=>rw[eZ,fN]at h;cases h;exact wpIn_label (hq D m a w ht (dw.e0 hi))
   | exit id=>rw[eZ,fN]at h;cases h;exact wpIn_exit (hq D m a w ht (dw.e0 hi))
   | ret=>rw[eZ,fN]at h;cases h;exact wpIn_ret (hq D m a w ht (dw.e0 hi))
   | seq c1 c2=>
     rw[eZ,fN,Nk]at h;simp only[ag]at h;obtain⟨x,hx,h⟩:=h;refine wpIn_seq (ih C c1 st x hx D m a w hi ht _ λD' m' a' w' ht' he=>?_);unfold v_ at h;cases hxe:x.1 with
     | a=>
       rw[hxe]at h;have:=ih C c2 x.2 r h D' m' a' w' he.b0 ht' Q λD2 m2 a2 w2 ht2 he2=>hq D2 m2 a2 w2 ht2 (he.c0 he2);rw[frame hx ht he]at this;exact this
     | b id=>rw[hxe]at h;cases h;rw[hxe]at hq;exact hq D' m' a' w' ht' he
     | c=>rw[hxe]at h;cases h;rw[hxe]at hq;exact hq D' m' a' w' ht' he
   | cond c c1 c2=>
     rw[eZ,fN,Ho]at h;simp only[ag]at h;obtain⟨v,hv,h⟩:=h;obtain⟨h1,_⟩:=mM hi ht hv;unfold Kl at h;split at h
     . exact wpIn_cond_true (by rw[h1];simp[aj]) (ih C c1 st r h D m a w hi ht Q hq)
     . exact wpIn_cond_false (by rw[h1];simp[aj]) (ih C c2 st r h D m a w hi ht Q hq)
     . cases h
   | block id b=>
     rw[eZ,fN,Bq]at h;simp only[ag,Option.some.injEq]at h;obtain⟨x,hx,rfl⟩:=h;refine wpIn_block (ih C b st x hx D m a w hi ht _ λD' m' a' w' ht' he=>?_);unfold lQ at hq;cases hxe:x.1 with
     | a=>rw[hxe]at hq;simp only at hq;rw[hxe]at hq;exact hq D' m' a' w' ht' he
     | c=>rw[hxe]at hq;simp only at hq;rw[hxe]at hq;exact hq D' m' a' w' ht' he
     | b j=>
       rw[hxe]at hq;simp only at hq;by_cases e:j=id
       . rw[gm e,cond_true]at hq;have:=hq D' m' a' w' ht' he;simpa [Exit.inBlock,e,lH]using this
       . rw[ic e,cond_false]at hq;rw[hxe]at hq;have:=hq D' m' a' w' ht' he;simpa [Exit.inBlock,e,lH]using this
   | scope b=>
     rw[eZ,fN,LJ]at h;refine jX (ih C b st r h D m a w hi ht _ λD' m' a' w' ht' he=>?_);have:=hq D' m' a' w' ht' he;cases hre:r.1<;>rw[hre]at this<;>exact this
   | region id ops draw=>
     rw[eZ,fN,sD]at h;simp only[ag,Option.some.injEq]at h;obtain⟨st',hs,rfl⟩:=h;exact Ik hT hm (yQ hT hK ih ill (λh=>by cases h) horc) (yH hof ill) (yQ hT hK ih ill (λ_ h=>h) horc) (Id ih ill) hi ht hs λD' m' a' w' ht' he=>hq D' m' a' w' ht' he
   | rangeFunc g ps assign body=>
     rw[eZ,fN]at h;exact Lj hT ih ill hi ht h hq
   | _=>cases h
theorem OS(n:Nat):jH P cfg True (lf T cfg false (eZ T cfg n)):=yQ hT hK (rv hT hm hK horc hof n).1 (px hof n) (λh=>by cases h) horc
end
end Go.Ev
end
section
namespace Go.Ev
open Go
variable{cfg':cL}{C:bg}{o:aB}{k:IntKind}{op:BinOp}{y:AV}
def KY(x:Bool):AV->Bool
 | .b y=>bQ x y
 | _=>false
def PM(k:IntKind)(x:Int):AV->Bool
 | .a l y=>gP k l&&aa x y
 | _=>false
def Pj(x:List UInt8):AV->Bool
 | .d y=>ae x y
 | _=>false
def PC(i o:Nat):AV->Bool
 | .g j p=>Nat.beq i j&&Nat.beq o p
 | _=>false
def CB:AV->Bool
 | .n=>true
 | _=>false
def xy:AV->Bool
 | .f=>true
 | _=>false
def w8:AV->Bool
 | .l=>true
 | _=>false
def Ht(t:TypeId)(f:AV->Bool):AV->Bool
 | .k u v=>Nat.beq t u&&f v
 | _=>false
def PL(f:List AV->Bool):AV->Bool
 | .h vs=>f vs
 | _=>false
def Hl(f:List AV->Bool):AV->Bool
 | .e vs=>f vs
 | _=>false
def yW(f:AV->AV->Bool):List AV->List AV->Bool
 | [],[]=>true
 | x::xs,y::ys=>f x y&&yW f xs ys
 | _,_=>false
def CU:Nat->AV->AV->Bool
 | 0,_=>λ_=>false
 | d+1,a=>match a with
   | .b x=>KY x
   | .a k x=>PM k x
   | .d x=>Pj x
   | .g i o=>PC i o
   | .n=>CB
   | .f=>xy
   | .l=>w8
   | .k t v=>Ht t (CU d v)
   | .h xs=>PL (yW (CU d) xs)
   | .e xs=>Hl (yW (CU d) xs)
   | _=>λ_=>false
theorem rq{f:AV->AV->Bool}(hf:∀a b,f a b->a=b):∀{xs ys:List AV},yW f xs ys->xs=ys
 | [],[],_=>rfl
 | x::xs,y::ys,h=>by
   rw[yW,Bool.and_eq_true]at h;rw[hf x y h.1,rq hf h.2]
 | [],_::_,h=>by cases h
 | _::_,[],h=>by cases h
theorem Bl:∀(d:Nat) (a b:AV),CU d a b->a=b
 | 0,a,b,h=>by cases h
 | d+1,a,b,h=>by
   have ih:=Bl d;unfold CU at h;cases a<;>simp only[Bool.false_eq_true]at h
   case b x=>cases b<;>simp only[KY,Bool.false_eq_true,nc,beq_iff_eq]at h;rw[h]
   case a k x=>
    cases b<;>simp only[PM,Bool.false_eq_true,Bool.and_eq_true,iv,o7]at h;rw[h.1,h.2]
   case d x=>cases b<;>simp only[Pj,Bool.false_eq_true,bV,beq_iff_eq]at h;rw[h]
   case g i o=>
    cases b<;>simp only[PC,Bool.false_eq_true,Bool.and_eq_true,cQ]at h;rw[h.1,h.2]
   case n=>cases b<;>simp only[CB,Bool.false_eq_true]at h;rfl
   case f=>cases b<;>simp only[xy,Bool.false_eq_true]at h;rfl
   case l=>cases b<;>simp only[w8,Bool.false_eq_true]at h;rfl
   case k t v=>
    cases b<;>simp only[Ht,Bool.false_eq_true,Bool.and_eq_true,cQ]at h;rw[h.1,ih _ _ h.2]
   case h xs=>cases b<;>simp only[PL,Bool.false_eq_true]at h;rw[rq ih h]
   case e xs=>cases b<;>simp only[Hl,Bool.false_eq_true]at h;rw[rq ih h]
def gM(P:Program)(cfg:cL)(f:FuncId)(args:List AV)(v:AV):Prop:=∀C D m o w,dX cfg D m C o w->fM D m args->
 jV P f (ap m args).toArray w λV w'=>V=aj m v/\dh D m v/\dw cfg C D m o w D m o w'/\m6 D w D m w'
structure nG(P:Program)(T:fm)(cfg:cL):Prop where
 d0:fH P T
 b0:P.follows .mixedOrders=true
 lv:qX cfg
 f0:jH P cfg True λC f args o=>cfg.c0 f C args o
 c0:b8 cfg λC f args o=>cfg.c0 f C args o
theorem dX.to{cfg:cL}(hG:cfg'.G=cfg.G)(hr:cfg'.a0=cfg.a0){D:Nat->Prop}{m:Nat->bv}{w:World}(h:dX cfg D m C o w):dX cfg' D m C o w:=
 ⟨h.a0,h.inj,h.lt,by rw[hG];exact h.c0,by rw[hr];exact h.b0,by rw[hr];exact h.le,by rw[hr];exact h.lo,h.e0⟩
theorem dw.to{cfg:cL}(hG:cfg'.G=cfg.G)(hr:cfg'.a0=cfg.a0){D D':Nat->Prop}{m m':Nat->bv}{o':aB}{w w':World}(h:dw cfg C D m o w D' m' o' w'):dw cfg' C D m o w D' m' o' w':=
 ⟨h.b0.to hG hr,h.f0,h.a0,h.l0,h.p0,h.os,h.k0,h.d0,h.i0,h.h0,h.m0,h.g0⟩
def isV(v:AV):Option AV->Bool
 | some x=>CU 8 x v
 | none=>false
def PZ(T:fm)(cfg:cL)(n:Nat)(args:List AV)(fc:Func×Code):Option AV:=An T cfg (eZ T cfg n) fc.1 fc.2 args
def pR(T:fm)(cfg:cL)(n:Nat)(f:FuncId)(args:List AV)(v:AV):Bool:=bc cfg.a0.n args&&isV v (ob (bj T f) (PZ T cfg n args))
theorem nG.a0{P:Program}{T:fm}{cfg:cL}(g:nG P T cfg)(n:Nat){f:FuncId}{args:List AV}{v:AV}(h:pR T cfg n f args v):gM P cfg f args v:=by
 intro C D m o w hi hok;rw[pR,Bool.and_eq_true]at h;obtain⟨hb,h⟩:=h;cases hx:ob (bj T f) (PZ T cfg n args)with
 | none=>rw[hx]at h;cases h
 | some x=>
   rw[hx]at h;have e:=Bl 8 x v h;subst e;rw[ag]at hx;obtain⟨⟨fn,c⟩,hbo,hc⟩:=hx;exact xk g.d0 g.lv (rv g.d0 g.b0 g.lv g.f0 g.c0 n).1 (px g.c0 n) hbo hb hc hi hok
inductive Tr(R:Type) where
 | a0 (a:R)
 | c0
 | d0 (b:Bool) (k:Bool->Tr R)
 | e0 (i:Nat) (k:Nat->Tr R)
 | f0 (k:(Nat->Value)->Tr R)
def Tr.b0{R:Type}:Tr R->Option R
 | .a0 a=>some a
 | .c0=>none
 | .d0 b k=>(k b).b0
 | .e0 i k=>(k i).b0
 | .f0 _=>none
def Tr.j0{R S:Type}:Tr R->(R->Tr S)->Tr S
 | .a0 a,K=>K a
 | .c0,_=>.c0
 | .d0 b k,K=>.d0 b λd=>(k d).j0 K
 | .e0 i k,K=>.e0 i λd=>(k d).j0 K
 | .f0 _,_=>.c0
theorem Tr.g0{R S:Type}{K:R->Tr S}{s:S}:∀{t:Tr R},(t.j0 K).b0=some s->∃a,t.b0=some a/\(K a).b0=some s
 | .a0 a,h=>⟨a,rfl,h⟩
 | .c0,h=>by cases h
 | .d0 b k,h=>Tr.g0 (t:=k b) h
 | .e0 i k,h=>Tr.g0 (t:=k i) h
 | .f0 k,h=>by cases h
def Tr.wp{R:Type}(Q:R->Prop):Tr R->Prop
 | .a0 a=>Q a
 | .c0=>False
 | .d0 b k=>(k b).wp Q
 | .e0 i k=>(k i).wp Q
 | .f0 k=>∀J,(k J).wp Q
def Tr.l0{R S:Type}:Tr R->(R->Tr S)->Tr S
 | .a0 a,K=>K a
 | .c0,_=>.c0
 | .d0 b k,K=>.d0 b λd=>(k d).l0 K
 | .e0 i k,K=>.e0 i λd=>(k d).l0 K
 | .f0 k,K=>.f0 λJ=>(k J).l0 K
theorem Tr.k0{R S:Type}{K:R->Tr S}{Q:S->Prop}:∀{t:Tr R},(t.j0 K).wp Q->∃a,t.b0=some a/\(K a).wp Q
 | .a0 a,h=>⟨a,rfl,h⟩
 | .c0,h=>h.elim
 | .d0 b k,h=>Tr.k0 (t:=k b) h
 | .e0 i k,h=>Tr.k0 (t:=k i) h
 | .f0 k,h=>h.elim
theorem Tr.h0{R S:Type}{K:R->Tr S}{Q:S->Prop}:∀{t:Tr R},(t.l0 K).wp Q->t.wp λa=>(K a).wp Q
 | .a0 a,h=>h
 | .c0,h=>h
 | .d0 b k,h=>Tr.h0 (t:=k b) h
 | .e0 i k,h=>Tr.h0 (t:=k i) h
 | .f0 k,h=>λJ=>Tr.h0 (t:=k J) (h J)
theorem Tr.i0{R:Type}{Q Q':R->Prop}(hq:∀a,Q a->Q' a):∀{t:Tr R},t.wp Q->t.wp Q'
 | .a0 a,h=>hq a h
 | .c0,h=>h
 | .d0 b k,h=>Tr.i0 hq (t:=k b) h
 | .e0 i k,h=>Tr.i0 hq (t:=k i) h
 | .f0 k,h=>λJ=>Tr.i0 hq (t:=k J) (h J)
section
variable{R:Type}
def aT{α:Type}(x:Option α)(K:α->Tr R):Tr R:=match x with
 | some a=>K a
 | none=>.c0
def fO(b:Bool)(t:Tr R):Tr R:=.d0 b λd=>bif d then t else .c0
theorem ar{α:Type}{x:Option α}{K:α->Tr R}{s:R}(h:(aT x K).b0=some s):∃a,x=some a/\(K a).b0=some s:=by
 cases x with
 | none=>cases h
 | some a=>exact⟨a,rfl,h⟩
theorem bG{b:Bool}{t:Tr R}{s:R}(h:(fO b t).b0=some s):b/\t.b0=some s:=by
 cases b with
 | true=>exact⟨rfl,h⟩
 | false=>cases h
theorem dk{b:Bool}{t:Tr R}{s:R}(h:(bif b then t else Tr.c0).b0=some s):b/\t.b0=some s:=by
 cases b with
 | true=>exact⟨rfl,h⟩
 | false=>cases h
def af(k:IntKind)(n:Int):Bool:=ab (eH k) n&&ab n (eE k)
def nA(k:IntKind)(n:Int)(K:AV->Tr R):Tr R:=.d0 (af k n) λb=>bif b then K (.a k n)else K (.a k (k.wrap n))
theorem qs{n:Int}{K:AV->Tr R}{s:R}(h:(nA k n K).b0=some s):∃v,iU k n=some v/\(K v).b0=some s:=by
 unfold nA at h;simp only[Tr.b0]at h;rw[iU,lk,DD];cases hb:af k n with
 | true=>rw[hb,cond_true]at h;unfold af at hb;exact⟨_,by rw[hb];rfl,h⟩
 | false=>rw[hb,cond_false]at h;unfold af at hb;exact⟨_,by rw[hb];rfl,h⟩
def Ld(k:IntKind)(n:Nat)(K:AV->Tr R):Tr R:=fO (af k (.ofNat n)) (K (.a k (.ofNat n)))
theorem rY{n:Nat}{K:AV->Tr R}{s:R}(h:(Ld k n K).b0=some s):∃v,iU k n=some v/\(K v).b0=some s:=by
 obtain⟨h1,h2⟩:=bG h;refine⟨_,?_,h2⟩;unfold af at h1;rw[iU,lk,DD,show((n:Nat):Int)=Int.ofNat n from rfl,h1];rfl
abbrev E7(R:Type):Type:=IntKind->Int->Int->(AV->Tr R)->Tr R
def Ua:E7 R:=λk a b K=>nA k (Int.add a b) K
def W4:E7 R:=λk a b K=>nA k (Int.sub a b) K
def V7:E7 R:=λk a b K=>nA k (Int.mul a b) K
def Ur:E7 R:=λk a b K=>fO (!(aa b 0)) (nA k (Int.tdiv a b) K)
def Uf:E7 R:=λk a b K=>fO (!(aa b 0)) (K (.a k (Int.tmod a b)))
def oG(f:nV):E7 R:=λk a b K=>aT (f k a b) K
def B5:BinOp->E7 R
 | .add=>Ua
 | .sub=>W4
 | .mul=>V7
 | .quo=>Ur
 | .rem=>Uf
 | .and=>λk x y K=>Ld k (BitVec.ofInt k.bits x &&& BitVec.ofInt k.bits y).toNat K
 | .or=>λk x y K=>Ld k (BitVec.ofInt k.bits x ||| BitVec.ofInt k.bits y).toNat K
 | .xor=>λk x y K=>Ld k (BitVec.ofInt k.bits x ^^^ BitVec.ofInt k.bits y).toNat K
 | .andNot=>λk x y K=>Ld k (BitVec.ofInt k.bits x &&& ~~~BitVec.ofInt k.bits y).toNat K
 | .eql=>oG Tp
 | .neq=>oG QZ
 | .lss=>oG Qq
 | .leq=>oG Qr
 | .gtr=>oG QY
 | .geq=>oG Q_
 | .shl=>oG Ee
 | .shr=>oG Ee
theorem Ec{a b:Int}{K:AV->Tr R}{s:R}(h:(B5 op k a b K).b0=some s):∃v,Ck op k a b=some v/\(K v).b0=some s:=by
 have mk:∀{n:Int},(nA k n K).b0=some s->∃v,iU k n=some v/\(K v).b0=some s:=qs;cases op<;>simp only[B5,Ck]at h ⊢
 case add=>exact mk h
 case sub=>exact mk h
 case mul=>exact mk h
 case quo=>
  obtain⟨h1,h2⟩:=bG h;obtain⟨v,h3,h4⟩:=mk h2;exact⟨v,by rw[Q5,h1];exact h3,h4⟩
 case rem=>
  obtain⟨h1,h2⟩:=bG h;exact⟨_,by rw[Ti,h1,lk];rfl,h2⟩
 case and=>exact rY h
 case or=>exact rY h
 case xor=>exact rY h
 case andNot=>exact rY h
 all_goals exact ar h
def MP(op:BinOp)(k:IntKind)(a:Int)(y:AV)(K:AV->Tr R):Tr R:=match y with
 | .a k' b=>bif pI op then aT (Fw op k a b) K else bif gP k k' then B5 op k a b K else .c0
 | _=>.c0
theorem IA{a:Int}{K:AV->Tr R}{s:R}(h:(MP op k a y K).b0=some s):∃v,KF op k a y=some v/\(K v).b0=some s:=by
 cases y<;>simp only[MP]at h<;>first|(cases h;done)|skip
 simp only[KF];cases hs:pI op with
 | true=>rw[hs]at h;exact ar h
 | false=>
   rw[hs]at h;simp only[cond_false]at h ⊢;obtain⟨h1,h2⟩:=dk h;rw[h1];exact Ec h2
def KE(op:BinOp)(a:List UInt8)(y:AV)(K:AV->Tr R):Tr R:=match y with
 | .d b=>match op with
   | .add=>fO (Nat.ble (a.length+b.length) 1000000) (K (.d (a++b)))
   | op=>aT (Ra op (rF a b) (ae a b)) K
 | _=>.c0
theorem IQ{a:List UInt8}{K:AV->Tr R}{s:R}(h:(KE op a y K).b0=some s):∃v,Jg op a y=some v/\(K v).b0=some s:=by
 cases y<;>simp only[KE]at h<;>first|(cases h;done)|skip
 cases op<;>simp only[Jg]at h ⊢
 case add=>
  obtain⟨h1,h2⟩:=bG h;exact⟨_,by rw[h1];rfl,h2⟩
 all_goals exact ar h
end
end Go.Ev
end
