import Derived.Test.YtafekjglclnegaaGreatDoorP11
set_option linter.all false
section
namespace Go.Ev
open Go Go.RowKit
section
variable{P:Program}{b:Frame}{a:Act}{k:List Item}{cs:List Frame}{w:World}{Q:Exit->Act->World->Prop}
theorem yX{c:Code}:step P (lone (b.atR a (.code (.scope c)::k)) cs w)=.next (lone (b.atR a (.code c::.inScope c::k)) cs w):=
 step_lone_go (by simp[stepG,stepG.exec,Frame.atR])
theorem tr{c:Code}:step P (lone (b.atR a (.inScope c::k)) cs w)=.next (lone (b.atR a k) cs w):=
 step_lone_go (by simp[stepG,stepG.exec,Frame.atR])
theorem iy{x:Option Nat}{c:Code}(h:c.wpIn (FR x) 0 P (Exit.noGoto Q) a w):(Code.scope c).wpIn (FR x) 0 P Q a w:=by
 intro b k cs hro hb hr
 obtain⟨e,a₁,w₁,hq,harr⟩:=h b (.inScope c::k) cs hro hb hr
 have h0:StepsIn (Machine.fenced P (FR x)) P (lone (b.atR a (.code (.scope c)::k)) cs w) (lone (b.atR a (.code c::.inScope c::k)) cs w):=.one (fenced_calm (fr:=b.atR a (.code (.scope c)::k)) hb hr rfl) yX
 cases e with
 | normal=>exact⟨.normal,a₁,w₁,hq,h0.trans (StepsIn.trans harr (.one (fenced_calm (fr:=b.atR a₁ (.inScope c::k)) hb hr rfl) tr))⟩
 | exit id=>
   exact⟨.exit id,a₁,w₁,hq,λk' hk=>h0.trans (harr.1 k' (by simpa [exitTo]using hk)),λhr' hk=>let⟨k₁,h1,h2⟩:=harr.2 hr' (by simpa [exitTo]using hk);⟨k₁,h1,h0.trans h2⟩⟩
 | goto l=>exact hq.elim
 | ret=>exact⟨_,a₁,w₁,hq,.of_steps h0 harr⟩
 | panic ch=>exact⟨_,a₁,w₁,hq,.of_steps h0 harr⟩
 | outgrown=>exact⟨_,a₁,w₁,hq,.of_steps h0 harr⟩
theorem mn{l:Nat}{r:Loop}(fn:FuncId)(tmps:Array Value)(ps:Array Tmp)(assign body:Code)(h:w.heap[l]? = some (.loop r)) :
 (Instr.enterLoop fn tmps ps assign body (some l)).run P w =
   .ok (w.heap.size,[]) (w.alloc (.loop { state:=.ready,pending:=none,fn,tmps,params:=ps,assign,body,defers:=r.defers })):=by
 unfold Instr.enterLoop
 simp only[Sem.run_bind,run_getLoop h,run_newObj_alloc,Result.andThen,Sem.run_pure,World.size_alloc]
end
section
variable{P:Program}{T:eA}(hT:eE P T){cfg:cx}{code:bg->Code->St->Option (AX×St)}(hcode:q4 P cfg code)(hll:j2 code)
include hT hcode hll
theorem wE{C:bg}{D:Nat->Prop}{m:Nat->bo}{st:St}{a:Act}{w:World}(hi:dQ cfg D m C st.o w)(ht:TR D m st a){e:Nat×aC×List Nat}(h:lZ C st=some e)(fn:FuncId)(ps:Array Tmp)(assign body:Code) :
 ∃D1 m1 w1 mark,(Instr.enterLoop fn a.tmps ps assign body (qk m st.ro)).run P w=.ok ((m1 (e.2.1.next C)).blk,mark) w1/\D1 (e.2.1.next C)/\
  dk cfg C D m st.o w D1 m1 (e.2.1.push (.loop ⟨.ready,none,st.ts,st.tn,ps,assign,body,e.1⟩)) w1/\mark++a.defers=fi m1 e.2.2/\∀d∈e.2.2,D1 d:=by
 have lay:∀{D0:Nat->Prop} {m0:Nat->bo} {o0:aC} {w0:World} {d:Nat},dk cfg C D m st.o w D0 m0 o0 w0->D0 d->
  dk cfg C D m st.o w (q5 D0 (C.lo+o0.n)) (tT m0 (C.lo+o0.n) ⟨w0.heap.size,0,0⟩) (o0.push (.loop ⟨.ready,none,st.ts,st.tn,ps,assign,body,d⟩))
   (w0.alloc (.loop { state:=.ready,pending:=none,fn,tmps:=a.tmps,params:=ps,assign,body,defers:=(m0 d).blk })):=by
  intro D0 m0 o0 w0 d hx hd
  refine hx.trans (dk.alloc hx.inv (by simp) (λk hk=>Below.heap_alloc _ _ k hk) (Nat.le_refl _) ?_ rfl rfl rfl)
  have ht0:=ht.mono hx.sub hx.same
  exact⟨fn,a.tmps,World.alloc_heap_new w0 _,⟨ht0.size,ht0.at',ht0.okt,hd⟩⟩
 unfold lZ at h
 cases hro:st.ro with
 | none=>
   rw[hro]at h
   cases h
   have h1:dk cfg C D m st.o w (q5 D (C.lo+st.o.n)) (tT m (C.lo+st.o.n) ⟨w.heap.size,0,0⟩) (st.o.push .defs) (w.alloc (.deferred (some []))):=
    dk.alloc hi (by simp) (λk hk=>Below.heap_alloc _ _ k hk) (Nat.le_refl _) (World.alloc_heap_new w _) rfl rfl rfl
   have hd1:q5 D (C.lo+st.o.n) (st.o.next C):=.inr rfl
   have h2:=lay h1 hd1
   have hblk:(tT m (C.lo+st.o.n) ⟨w.heap.size,0,0⟩ (st.o.next C)).blk=w.heap.size:=by
    show(tT m (C.lo+st.o.n) ⟨w.heap.size,0,0⟩ (C.lo+st.o.n)).blk=_
    rw[eN]
   rw[hblk]at h2
   have hrun:=run_enterLoop_outer (P:=P) (w:=w) fn a.tmps ps assign body
   refine⟨_,_,_,[{ target:=.collected w.heap.size,args:=#[] }],?_,.inr rfl,h2,?_,?_⟩
   · show(Instr.enterLoop fn a.tmps ps assign body none).run P w=_
     rw[hrun]
     congr 2
     show w.heap.size+1=(tT _ (C.lo+(st.o.push .defs).n) _ (C.lo+(st.o.push .defs).n)).blk
     rw[eN];simp
   · rw[ht.defers]
     have hs:fi (tT (tT m (C.lo+st.o.n) ⟨w.heap.size,0,0⟩) (C.lo+(st.o.push .defs).n) ⟨(w.alloc (.deferred (some []))).heap.size,0,0⟩) st.ds=fi m st.ds:=gq ht.dsD λi hi'=>by
      have:=hi.lt i hi'
      rw[mW (by simp only[aC.push];omega),mW (by omega)]
     show _::fi m st.ds=_::fi _ st.ds
     rw[hs]
     congr 2
     show Target.collected w.heap.size=.collected (tT (tT m (C.lo+st.o.n) _) (C.lo+(st.o.push .defs).n) _ (C.lo+st.o.n)).blk
     rw[mW (by simp only[aC.push];omega),eN]
   · intro d hd
     rcases List.mem_cons.1 hd with rfl|hd
     · exact .inl (.inr rfl)
     · exact .inl (.inl (ht.dsD d hd))
 | some i=>
   rw[hro]at h
   simp only[ag,Option.some.injEq]at h
   obtain⟨q,hq,rfl⟩:=h
   have hdi:=ht.roD i hro
   obtain⟨fn0,tmps0,hb,hrel⟩:∃fn tmps,w.heap[(m i).blk]? = some (.loop (d5 m q fn tmps))/\iG D m q fn tmps:=by
    have:=hi.obj i hdi
    rw[e7 (gh hq)]at this
    exact this
   have h2:=lay (dk.refl hi) hrel.defs
   have hrun:=mn (P:=P) fn a.tmps ps assign body hb
   refine⟨_,_,_,[],?_,.inr rfl,h2,?_,λd hd=>.inl (ht.dsD d hd)⟩
   · show(Instr.enterLoop fn a.tmps ps assign body (some (m i).blk)).run P w=_
     rw[hrun]
     congr 2
     show w.heap.size=(tT _ (C.lo+st.o.n) _ (C.lo+st.o.n)).blk
     rw[eN]
   · rw[ht.defers]
     show fi m st.ds=fi _ st.ds
     exact(gq ht.dsD λi hi'=>by
      have:=hi.lt i hi'
      exact mW (by omega)).symm
theorem Es{C:bg}{D:Nat->Prop}{m:Nat->bo}{st:St}{a:Act}{w:World}(hi:dQ cfg D m C st.o w)(ht:TR D m st a){g:Operand}{ps:Array Tmp}{assign body:Code}{r:AX×St}(h:xd g ps assign body T cfg code C st=some r)
 {Q:Exit->Act->World->Prop} (hq:∀D' m' a' w',TR D' m' r.2 a'->dk cfg C D m st.o w D' m' r.2.o w'->Q (jz r.1) a' w'):(Code.rangeFunc g ps assign body).wpIn (FR (qk m st.ro)) 0 P Q a w:=by
 simp only[xd,ag]at h
 obtain⟨gv,hgv,e,he,x,hx,h⟩:=h
 simp only[sk,ag,ay,Option.some.injEq]at h
 obtain⟨q,hq',hbusy,ax,hax,rfl⟩:=h
 obtain⟨hev,hgok⟩:=j6 hi ht hgv
 refine wpIn_rangeFunc λfn _=>?_
 obtain⟨D1,m1,w1,mark,hrun,hl1,hx1,hmk,hds⟩:=wE (P:=P) hT hcode hll hi ht he fn ps assign body
 cases gv<;>simp only[rc,reduceCtorEq]at hx
 rename_i f first captured
 rw[ag]at hx
 obtain⟨fc,hfc,hx⟩:=hx
 have hok1:eI D1 m1 (first++[.yield (e.2.1.next C)]++captured):=by
  have h1:eI D m first/\eI D m captured:=⟨λi hm=>hgok i (by simp[aq,hm]),λi hm=>hgok i (by simp[aq,hm])⟩
  refine dT.2 ⟨dT.2 ⟨h1.1.mono hx1.sub hx1.same,cq.2 ⟨λi hm=>?_,eL⟩⟩,h1.2.mono hx1.sub hx1.same⟩
  simp only[aq,List.mem_singleton]at hm
  subst hm
  exact⟨hl1,Nat.zero_le _⟩
 obtain⟨fn',cc⟩:=fc
 obtain⟨hent,hcalls⟩:=oO (P:=P) (cfg:=cfg) (R:=λV w'=>∃D' m',V=aj m' x.1/\cY D' m' x.1/\dk cfg C D1 m1 (e.2.1.push (.loop ⟨.ready,none,st.ts,st.tn,ps,assign,body,e.1⟩)) w1 D' m' x.2 w') hT hcode hfc hx hx1.inv hok1
  λD' m' w' hv hxx=>⟨D',m',rfl,hv,hxx⟩
 have hargs:(ar m1 first).toArray++#[Value.func (.yield (m1 (e.2.1.next C)).blk) #[] #[]]++(ar m1 captured).toArray=(ar m1 (first++[.yield (e.2.1.next C)]++captured)).toArray:=by
  simp[jD,ar,aj]
 refine⟨(m1 (e.2.1.next C)).blk,mark,w1,{ target:=.fn (.func f) (ar m1 captured).toArray,args:=(ar m1 first).toArray++#[.func (.yield (m1 (e.2.1.next C)).blk) #[] #[]] },w1,f,(ar m1 (first++[.yield (e.2.1.next C)]++captured)).toArray,w1,hrun,?_,λ_ _=>trivial,?_,λhk=>(by cases hk),?_⟩
 · have e1:ar m first=ar m1 first:=(rP (λi hm=>hgok i (by simp[aq,hm])) hx1.same).symm
   have e2:ar m captured=ar m1 captured:=(rP (λi hm=>hgok i (by simp[aq,hm])) hx1.same).symm
   simp only[resolve,hev,aj,Deferred.ofValue,e1,e2]
   simp[go_sem]
 · simp only[invoke]
   rw[hargs];exact hent
 · refine CallsIn.mono (AB hcalls) ?_
   rintro e' w3 ⟨v,rfl,D3,m3,rfl,hv3,hx3⟩
   have hl3:=hx3.sub _ hl1
   have hm3:=hx3.same _ hl1
   obtain⟨fn3,tmps3,hb3,hrel3⟩:∃fn tmps,w3.heap[(m3 (e.2.1.next C)).blk]? = some (.loop (d5 m3 q fn tmps))/\iG D3 m3 q fn tmps:=by
    have:=hx3.inv.obj _ hl3
    rw[e7 (gh hq')]at this
    exact this
   have hlt3:=(Array.getElem?_eq_some_iff.1 hb3).1
   have hnb:(d5 m3 q fn3 tmps3).state≠.busy:=by
    show q.state≠.busy
    intro hs
    rw[hs]at hbusy;cases hbusy
   have hend:=run_endLoop (P:=P) hb3 hnb
   have he4:dk cfg C D3 m3 x.2 w3 D3 m3 (dY C x.2 (e.2.1.next C) (.loop ⟨.exhausted,q.pend,q.ts,q.tn,q.params,q.assign,q.body,q.defs⟩)) (w3.putObj (m3 (e.2.1.next C)).blk (.loop { d5 m3 q fn3 tmps3 with state:=.exhausted })):=
    dk.put hx3.inv hl3 (gh hq') rfl (by simp) (λk hk=>World.putObj_heap_other hk) ⟨fn3,tmps3,World.putObj_heap_same hlt3,⟨hrel3.size,hrel3.at',hrel3.okt,hrel3.defs⟩⟩ rfl rfl rfl
   generalize w3.putObj (m3 (e.2.1.next C)).blk (.loop { d5 m3 q fn3 tmps3 with state:=.exhausted })=w4 at hend he4
   have hall:=hx1.trans (hx3.trans he4)
   have ht4:TR D3 m3 ⟨st.ts,st.tn,dY C x.2 (e.2.1.next C) (.loop ⟨.exhausted,q.pend,q.ts,q.tn,q.params,q.assign,q.body,q.defs⟩),e.2.2,st.ro⟩ { a with defers:=mark++a.defers }:=by
    have h0:=(ht.mono hx1.sub hx1.same).mono hx3.sub hx3.same
    refine⟨h0.size,h0.at',h0.okt,?_,λd hd=>hx3.sub d (hds d hd),h0.roD⟩
    show mark++a.defers=fi m3 e.2.2
    rw[hmk,gq hds hx3.same]
   have hfin:=hq D3 m3 _ _ ht4 hall
   show ∃jump w₄,(Instr.endLoop (m1 (e.2.1.next C)).blk).run P w3=.ok jump w₄/\_
   rw[<-hm3]
   refine⟨_,_,hend,?_⟩
   have hpend:(d5 m3 q fn3 tmps3).pending=q.pend:=rfl
   rw[hpend]
   unfold BE at hax
   split at hax
   · rename_i hp;cases hax;rw[hp];exact hfin
   · rename_i hp;cases hax;rw[hp];exact wpIn_ret hfin
   · rename_i id hp;cases hax;rw[hp];exact wpIn_exit hfin
   · cases hax
end
section
variable{P:Program}{T:eA}(hT:eE P T)(hm:P.follows .mixedOrders=true){cfg:cx}(hK:nL cfg)(horc:iT P cfg True λC f args o=>cfg.orc f C args o)(hof:bV cfg λC f args o=>cfg.orc f C args o)
include hT hm hK horc hof
theorem qv:∀n,q4 P cfg (ec T cfg n)/\∀C b st r,ec T cfg n C (.loop b) st=some r->∀D m a w,dQ cfg D m C st.o w->TR D m st a->∀Q:Exit->Act->World->Prop,
 (∀D' m' a' w',TR D' m' r.2 a'->dk cfg C D m st.o w D' m' r.2.o w'->Q (jz r.1) a' w')->Code.roundsIn (FR (qk m st.ro)) 0 P b Q n a w
 | 0=>⟨λC c st r h=>(by cases h),λC b st r h=>(by cases h)⟩
 | n+1=>by
   obtain⟨ih,ihl⟩:=qv n
   have ill:=nR (T:=T) hof n
   have frame:∀{C:bg} {c:Code} {st:St} {x:AX×St} {D D':Nat->Prop} {m m':Nat->bo} {a:Act} {w w':World},ec T cfg n C c st=some x->TR D m st a->dk cfg C D m st.o w D' m' x.2.o w'->qk m' x.2.ro=qk m st.ro:=λhx ht he=>by
    rw[(ill _ _ _ _ hx).2,ot ht.roD he.same]
   have hloop:∀C b st r,ec T cfg (n+1) C (.loop b) st=some r->∀D m a w,dQ cfg D m C st.o w->TR D m st a->∀Q:Exit->Act->World->Prop,
    (∀D' m' a' w',TR D' m' r.2 a'->dk cfg C D m st.o w D' m' r.2.o w'->Q (jz r.1) a' w')->Code.roundsIn (FR (qk m st.ro)) 0 P b Q (n+1) a w:=by
    intro C b st r h D m a w hi ht Q hq
    rw[ec,eO,Bn]at h
    simp only[ag]at h
    obtain⟨x,hx,h⟩:=h
    rw[roundsIn_succ]
    refine ih C b st x hx D m a w hi ht _ λD' m' a' w' ht' he=>?_
    unfold pO at h
    cases hxe:x.1 with
    | normal=>
      rw[hxe]at h
      have:=ihl C b x.2 r h D' m' a' w' he.inv ht' Q λD2 m2 a2 w2 ht2 he2=>hq D2 m2 a2 w2 ht2 (he.trans he2)
      rw[frame hx ht he]at this
      exact this
    | exit id=>rw[hxe]at h;cases h;rw[hxe]at hq;exact hq D' m' a' w' ht' he
    | ret=>rw[hxe]at h;cases h;rw[hxe]at hq;exact hq D' m' a' w' ht' he
   refine⟨?_,hloop⟩
   intro C c st r h D m a w hi ht Q hq
   cases c with
   | loop b=>exact wpIn_loop_rounds (n+1) (hloop C b st r h D m a w hi ht Q hq)
   | skip=>rw[ec,eO]at h;cases h;exact wpIn_skip (hq D m a w ht (dk.refl hi))
   | label l=>rw[ec,eO]at h;cases h;exact wpIn_label (hq D m a w ht (dk.refl hi))
   | exit id=>rw[ec,eO]at h;cases h;exact wpIn_exit (hq D m a w ht (dk.refl hi))
   | ret=>rw[ec,eO]at h;cases h;exact wpIn_ret (hq D m a w ht (dk.refl hi))
   | seq c1 c2=>
     rw[ec,eO,Jp]at h
     simp only[ag]at h
     obtain⟨x,hx,h⟩:=h
     refine wpIn_seq (ih C c1 st x hx D m a w hi ht _ λD' m' a' w' ht' he=>?_)
     unfold pO at h
     cases hxe:x.1 with
     | normal=>
       rw[hxe]at h
       have:=ih C c2 x.2 r h D' m' a' w' he.inv ht' Q λD2 m2 a2 w2 ht2 he2=>hq D2 m2 a2 w2 ht2 (he.trans he2)
       rw[frame hx ht he]at this
       exact this
     | exit id=>rw[hxe]at h;cases h;rw[hxe]at hq;exact hq D' m' a' w' ht' he
     | ret=>rw[hxe]at h;cases h;rw[hxe]at hq;exact hq D' m' a' w' ht' he
   | cond c c1 c2=>
     rw[ec,eO,Bz]at h
     simp only[ag]at h
     obtain⟨v,hv,h⟩:=h
     obtain⟨h1,_⟩:=j6 hi ht hv
     unfold Dq at h
     split at h
     · exact wpIn_cond_true (by rw[h1];simp[aj]) (ih C c1 st r h D m a w hi ht Q hq)
     · exact wpIn_cond_false (by rw[h1];simp[aj]) (ih C c2 st r h D m a w hi ht Q hq)
     · cases h
   | block id b=>
     rw[ec,eO,xh]at h
     simp only[ag,Option.some.injEq]at h
     obtain⟨x,hx,rfl⟩:=h
     refine wpIn_block (ih C b st x hx D m a w hi ht _ λD' m' a' w' ht' he=>?_)
     unfold jA at hq
     cases hxe:x.1 with
     | normal=>rw[hxe]at hq;simp only at hq;rw[hxe]at hq;exact hq D' m' a' w' ht' he
     | ret=>rw[hxe]at hq;simp only at hq;rw[hxe]at hq;exact hq D' m' a' w' ht' he
     | exit j=>
       rw[hxe]at hq
       simp only at hq
       by_cases e:j=id
       · rw[dI e,cond_true]at hq
         have:=hq D' m' a' w' ht' he
         simpa [Exit.inBlock,e,jz]using this
       · rw[iH e,cond_false]at hq
         rw[hxe]at hq
         have:=hq D' m' a' w' ht' he
         simpa [Exit.inBlock,e,jz]using this
   | scope b=>
     rw[ec,eO,D5]at h
     refine iy (ih C b st r h D m a w hi ht _ λD' m' a' w' ht' he=>?_)
     have:=hq D' m' a' w' ht' he
     cases hre:r.1<;>rw[hre]at this<;>exact this
   | region id ops draw=>
     rw[ec,eO,nu]at h
     simp only[ag,Option.some.injEq]at h
     obtain⟨st',hs,rfl⟩:=h
     exact Cn hT hm (zc hT hK ih ill (λh=>by cases h) horc) (sH hof ill) (zc hT hK ih ill (λ_ h=>h) horc) (CK ih ill) hi ht hs λD' m' a' w' ht' he=>hq D' m' a' w' ht' he
   | rangeFunc g ps assign body=>
     rw[ec,eO]at h
     exact Es hT ih ill hi ht h hq
   | _=>cases h
end
end Go.Ev
end
section
namespace Go.Ev
open Go
def Dy(x:Bool):AV->Bool
 | .bool y=>aL x y
 | _=>false
def Kq(k:IntKind)(x:Int):AV->Bool
 | .int l y=>hU k l&&aa x y
 | _=>false
def Ki(x:List UInt8):AV->Bool
 | .str y=>af x y
 | _=>false
def Kt(i o:Nat):AV->Bool
 | .ptr j p=>Nat.beq i j&&Nat.beq o p
 | _=>false
def yA:AV->Bool
 | .nilptr=>true
 | _=>false
def qM:AV->Bool
 | .nilslice=>true
 | _=>false
def rp:AV->Bool
 | .niliface=>true
 | _=>false
def Bh(t:TypeId)(f:AV->Bool):AV->Bool
 | .iface u v=>Nat.beq t u&&f v
 | _=>false
def Kj(f:List AV->Bool):AV->Bool
 | .agg vs=>f vs
 | _=>false
def Bi(f:List AV->Bool):AV->Bool
 | .tuple vs=>f vs
 | _=>false
def sE(f:AV->AV->Bool):List AV->List AV->Bool
 | [],[]=>true
 | x::xs,y::ys=>f x y&&sE f xs ys
 | _,_=>false
def xE:Nat->AV->AV->Bool
 | 0,_=>λ_=>false
 | d+1,a=>match a with
   | .bool x=>Dy x
   | .int k x=>Kq k x
   | .str x=>Ki x
   | .ptr i o=>Kt i o
   | .nilptr=>yA
   | .nilslice=>qM
   | .niliface=>rp
   | .iface t v=>Bh t (xE d v)
   | .agg xs=>Kj (sE (xE d) xs)
   | .tuple xs=>Bi (sE (xE d) xs)
   | _=>λ_=>false
theorem oP{f:AV->AV->Bool}(hf:∀a b,f a b=true->a=b):∀{xs ys:List AV},sE f xs ys=true->xs=ys
 | [],[],_=>rfl
 | x::xs,y::ys,h=>by
   rw[sE,Bool.and_eq_true]at h
   rw[hf x y h.1,oP hf h.2]
 | [],_::_,h=>by cases h
 | _::_,[],h=>by cases h
theorem wo:∀(d:Nat) (a b:AV),xE d a b=true->a=b
 | 0,a,b,h=>by cases h
 | d+1,a,b,h=>by
   have ih:=wo d
   unfold xE at h
   cases a<;>simp only[Bool.false_eq_true]at h
   case bool x=>cases b<;>simp only[Dy,Bool.false_eq_true,jZ,beq_iff_eq]at h;rw[h]
   case int k x=>
    cases b<;>simp only[Kq,Bool.false_eq_true,Bool.and_eq_true,gi,ly]at h
    rw[h.1,h.2]
   case str x=>cases b<;>simp only[Ki,Bool.false_eq_true,cF,beq_iff_eq]at h;rw[h]
   case ptr i o=>
    cases b<;>simp only[Kt,Bool.false_eq_true,Bool.and_eq_true,cK]at h
    rw[h.1,h.2]
   case nilptr=>cases b<;>simp only[yA,Bool.false_eq_true]at h;rfl
   case nilslice=>cases b<;>simp only[qM,Bool.false_eq_true]at h;rfl
   case niliface=>cases b<;>simp only[rp,Bool.false_eq_true]at h;rfl
   case iface t v=>
    cases b<;>simp only[Bh,Bool.false_eq_true,Bool.and_eq_true,cK]at h
    rw[h.1,ih _ _ h.2]
   case agg xs=>cases b<;>simp only[Kj,Bool.false_eq_true]at h;rw[oP ih h]
   case tuple xs=>cases b<;>simp only[Bi,Bool.false_eq_true]at h;rw[oP ih h]
abbrev rf:=Tb (List (List AV×AV))
def pU:List (List AV×AV)->List AV->Option AV
 | [],_=>none
 | e::es,args=>bif sE (xE 8) e.1 args then some e.2 else pU es args
def Nq(b:Option (AV×aC))(o:aC):Option AV->Option (AV×aC)
 | some v=>some (v,o)
 | none=>b
def V8(M:rf)(base:FuncId->bg->List AV->aC->Option (AV×aC))(f:FuncId)(C:bg)(args:List AV)(o:aC):Option (AV×aC):=Nq (base f C args o) o (ob (M.get f) λl=>pU l args)
def q8(cfg:cx)(M:rf):cx:=⟨cfg.G,cfg.lend,cfg.canon,V8 M cfg.orc,cfg.root⟩
def ey(P:Program)(cfg:cx)(f:FuncId)(args:List AV)(v:AV):Prop:=∀C D m o w,dQ cfg D m C o w->eI D m args->
 iY P f (ar m args).toArray w λV w'=>V=aj m v/\cY D m v/\dk cfg C D m o w D m o w'/\ku D w D m w'
def Oh(P:Program)(cfg:cx)(M:rf):Prop:=∀f l,M.get f=some l->∀e∈l,ey P cfg f e.1 e.2
structure fV(P:Program)(T:eA)(cfg:cx):Prop where
 tab:eE P T
 mixed:P.follows .mixedOrders=true
 lv:nL cfg
 orc:iT P cfg True λC f args o=>cfg.orc f C args o
 foot:bV cfg λC f args o=>cfg.orc f C args o
theorem ry:∀{l:List (List AV×AV)} {args:List AV} {v:AV},pU l args=some v->(args,v)∈l
 | [],args,v,h=>by cases h
 | e::es,args,v,h=>by
   rw[pU]at h
   cases hb:sE (xE 8) e.1 args with
   | true=>
     rw[hb,cond_true,Option.some.injEq]at h
     have:=oP (wo 8) hb
     rw[<-this,<-h]
     exact List.mem_cons_self
   | false=>rw[hb,cond_false]at h;exact List.mem_cons_of_mem _ (ry h)
theorem dQ.to{cfg cfg':cx}(hG:cfg'.G=cfg.G)(hr:cfg'.root=cfg.root){D:Nat->Prop}{m:Nat->bo}{C:bg}{o:aC}{w:World}(h:dQ cfg D m C o w):dQ cfg' D m C o w:=
 ⟨h.obj,h.inj,h.lt,by rw[hG];exact h.glob,by rw[hr];exact h.root,by rw[hr];exact h.le,by rw[hr];exact h.lo,h.len⟩
theorem dk.to{cfg cfg':cx}(hG:cfg'.G=cfg.G)(hr:cfg'.root=cfg.root){C:bg}{D D':Nat->Prop}{m m':Nat->bo}{o o':aC}{w w':World}(h:dk cfg C D m o w D' m' o' w'):dk cfg' C D m o w D' m' o' w':=
 ⟨h.inv.to hG hr,h.sub,h.same,h.new,h.grow,h.os,h.tape,h.output,h.size,h.frame,h.leIds,h.fresh⟩
theorem fV.memo{P:Program}{T:eA}{cfg:cx}(g:fV P T cfg){M:rf}(hM:Oh P cfg M):fV P T (q8 cfg M):=by
 refine⟨g.tab,g.mixed,⟨g.lv.loops,g.lv.G,g.lv.root⟩,λC f args o r h D m w hi hok=>?_,λC f args o r h hl=>?_⟩
 · have h':Nq (cfg.orc f C args o) o (ob (M.get f) λl=>pU l args)=some r:=h
   have hi':dQ cfg D m C o w:=dQ.to (cfg:=q8 cfg M) (cfg':=cfg) rfl rfl hi
   cases hx:(ob (M.get f) λl=>pU l args)with
   | some v=>
     rw[hx]at h'
     cases h'
     rw[ag]at hx
     obtain⟨l,hl,hv⟩:=hx
     exact(hM f l hl _ (ry hv) C D m o w hi' hok).mono λV w' ⟨h1,h2,h3,h4⟩=>⟨D,m,h1,h2,dk.to (cfg:=cfg) (cfg':=q8 cfg M) rfl rfl h3,λ_ _=>h4⟩
   | none=>
     rw[hx]at h'
     exact(g.orc C f args o r h' D m w hi' hok).mono λV w' ⟨D',m',h1,h2,h3,h4⟩=>⟨D',m',h1,h2,dk.to (cfg:=cfg) (cfg':=q8 cfg M) rfl rfl h3,h4⟩
 · have h':Nq (cfg.orc f C args o) o (ob (M.get f) λl=>pU l args)=some r:=h
   cases hx:(ob (M.get f) λl=>pU l args)with
   | some v=>rw[hx]at h';cases h';exact .refl hl
   | none=>rw[hx]at h';exact g.foot C f args o r h' hl
def Yv(v:AV):Option AV->Bool
 | some x=>xE 8 x v
 | none=>false
def Ke(T:eA)(cfg:cx)(n:Nat)(args:List AV)(fc:Func×Code):Option AV:=tP T cfg (ec T cfg n) fc.1 fc.2 args
def dn(T:eA)(cfg:cx)(n:Nat)(f:FuncId)(args:List AV)(v:AV):Bool:=aG cfg.root.n args&&Yv v (ob (aH T f) (Ke T cfg n args))
theorem fV.fact{P:Program}{T:eA}{cfg:cx}(g:fV P T cfg)(n:Nat){f:FuncId}{args:List AV}{v:AV}(h:dn T cfg n f args v=true):ey P cfg f args v:=by
 intro C D m o w hi hok
 rw[dn,Bool.and_eq_true]at h
 obtain⟨hb,h⟩:=h
 cases hx:ob (aH T f) (Ke T cfg n args)with
 | none=>rw[hx]at h;cases h
 | some x=>
   rw[hx]at h
   have e:=wo 8 x v h
   subst e
   rw[ag]at hx
   obtain⟨⟨fn,c⟩,hbo,hc⟩:=hx
   exact rH g.tab g.lv (qv g.tab g.mixed g.lv g.orc g.foot n).1 (nR g.foot n) hbo hb hc hi hok
theorem ao{P:Program}{cfg:cx}{f:FuncId}{args:List AV}{v:AV}{l:List (List AV×AV)}(h:ey P cfg f args v)(hl:∀e∈l,ey P cfg f e.1 e.2):∀e∈(args,v)::l,ey P cfg f e.1 e.2:=λe he=>by
 grind
theorem bh{P:Program}{cfg:cx}{f:FuncId}:∀e∈([]:List (List AV×AV)),ey P cfg f e.1 e.2:=λe he=>by cases he
inductive Tr(R:Type) where
 | ret (a:R)
 | fail
 | test (b:Bool) (k:Bool->Tr R)
 | pickN (i:Nat) (k:Nat->Tr R)
 | all (k:(Nat->Value)->Tr R)
def Tr.run{R:Type}:Tr R->Option R
 | .ret a=>some a
 | .fail=>none
 | .test b k=>(k b).run
 | .pickN i k=>(k i).run
 | .all _=>none
def Tr.bind{R S:Type}:Tr R->(R->Tr S)->Tr S
 | .ret a,K=>K a
 | .fail,_=>.fail
 | .test b k,K=>.test b λd=>(k d).bind K
 | .pickN i k,K=>.pickN i λd=>(k d).bind K
 | .all _,_=>.fail
theorem Tr.run_bind{R S:Type}{K:R->Tr S}{s:S}:∀{t:Tr R},(t.bind K).run=some s->∃a,t.run=some a/\(K a).run=some s
 | .ret a,h=>⟨a,rfl,h⟩
 | .fail,h=>by cases h
 | .test b k,h=>Tr.run_bind (t:=k b) h
 | .pickN i k,h=>Tr.run_bind (t:=k i) h
 | .all k,h=>by cases h
def Tr.wp{R:Type}(Q:R->Prop):Tr R->Prop
 | .ret a=>Q a
 | .fail=>False
 | .test b k=>(k b).wp Q
 | .pickN i k=>(k i).wp Q
 | .all k=>∀J,(k J).wp Q
def Tr.then{R S:Type}:Tr R->(R->Tr S)->Tr S
 | .ret a,K=>K a
 | .fail,_=>.fail
 | .test b k,K=>.test b λd=>(k d).then K
 | .pickN i k,K=>.pickN i λd=>(k d).then K
 | .all k,K=>.all λJ=>(k J).then K
theorem Tr.wp_bind{R S:Type}{K:R->Tr S}{Q:S->Prop}:∀{t:Tr R},(t.bind K).wp Q->∃a,t.run=some a/\(K a).wp Q
 | .ret a,h=>⟨a,rfl,h⟩
 | .fail,h=>h.elim
 | .test b k,h=>Tr.wp_bind (t:=k b) h
 | .pickN i k,h=>Tr.wp_bind (t:=k i) h
 | .all k,h=>h.elim
theorem Tr.wp_then{R S:Type}{K:R->Tr S}{Q:S->Prop}:∀{t:Tr R},(t.then K).wp Q->t.wp λa=>(K a).wp Q
 | .ret a,h=>h
 | .fail,h=>h
 | .test b k,h=>Tr.wp_then (t:=k b) h
 | .pickN i k,h=>Tr.wp_then (t:=k i) h
 | .all k,h=>λJ=>Tr.wp_then (t:=k J) (h J)
theorem Tr.wp_mono{R:Type}{Q Q':R->Prop}(hq:∀a,Q a->Q' a):∀{t:Tr R},t.wp Q->t.wp Q'
 | .ret a,h=>hq a h
 | .fail,h=>h
 | .test b k,h=>Tr.wp_mono hq (t:=k b) h
 | .pickN i k,h=>Tr.wp_mono hq (t:=k i) h
 | .all k,h=>λJ=>Tr.wp_mono hq (t:=k J) (h J)
section
variable{R:Type}
def aV{α:Type}(x:Option α)(K:α->Tr R):Tr R:=match x with
 | some a=>K a
 | none=>.fail
def eh(b:Bool)(t:Tr R):Tr R:=.test b λd=>bif d then t else .fail
theorem au{α:Type}{x:Option α}{K:α->Tr R}{s:R}(h:(aV x K).run=some s):∃a,x=some a/\(K a).run=some s:=by
 cases x with
 | none=>cases h
 | some a=>exact⟨a,rfl,h⟩
theorem bu{b:Bool}{t:Tr R}{s:R}(h:(eh b t).run=some s):b=true/\t.run=some s:=by
 cases b with
 | true=>exact⟨rfl,h⟩
 | false=>cases h
theorem cW{b:Bool}{t:Tr R}{s:R}(h:(bif b then t else Tr.fail).run=some s):b=true/\t.run=some s:=by
 cases b with
 | true=>exact⟨rfl,h⟩
 | false=>cases h
def ae(k:IntKind)(n:Int):Bool:=ab (bA k) n&&ab n (bB k)
def ki(k:IntKind)(n:Int)(K:AV->Tr R):Tr R:=.test (ae k n) λb=>bif b then K (.int k n)else K (.int k (k.wrap n))
theorem np{k:IntKind}{n:Int}{K:AV->Tr R}{s:R}(h:(ki k n K).run=some s):∃v,gJ k n=some v/\(K v).run=some s:=by
 unfold ki at h
 simp only[Tr.run]at h
 rw[gJ,jk,xx]
 cases hb:ae k n with
 | true=>rw[hb,cond_true]at h;unfold ae at hb;exact⟨_,by rw[hb];rfl,h⟩
 | false=>rw[hb,cond_false]at h;unfold ae at hb;exact⟨_,by rw[hb];rfl,h⟩
def DW(k:IntKind)(n:Nat)(K:AV->Tr R):Tr R:=eh (ae k (.ofNat n)) (K (.int k (.ofNat n)))
theorem nv{k:IntKind}{n:Nat}{K:AV->Tr R}{s:R}(h:(DW k n K).run=some s):∃v,gJ k n=some v/\(K v).run=some s:=by
 obtain⟨h1,h2⟩:=bu h
 refine⟨_,?_,h2⟩
 unfold ae at h1
 rw[gJ,jk,xx,show((n:Nat):Int)=Int.ofNat n from rfl,h1];rfl
abbrev zP(R:Type):Type:=IntKind->Int->Int->(AV->Tr R)->Tr R
def QP:zP R:=λk a b K=>ki k (Int.add a b) K
def RM:zP R:=λk a b K=>ki k (Int.sub a b) K
def Tw:zP R:=λk a b K=>ki k (Int.mul a b) K
def RY:zP R:=λk a b K=>eh (!(aa b 0)) (ki k (Int.tdiv a b) K)
def QX:zP R:=λk a b K=>eh (!(aa b 0)) (K (.int k (Int.tmod a b)))
def kN(f:kB):zP R:=λk a b K=>aV (f k a b) K
def wK:BinOp->zP R
 | .add=>QP
 | .sub=>RM
 | .mul=>Tw
 | .quo=>RY
 | .rem=>QX
 | .and=>λk x y K=>DW k (BitVec.ofInt k.bits x &&& BitVec.ofInt k.bits y).toNat K
 | .or=>λk x y K=>DW k (BitVec.ofInt k.bits x ||| BitVec.ofInt k.bits y).toNat K
 | .xor=>λk x y K=>DW k (BitVec.ofInt k.bits x ^^^ BitVec.ofInt k.bits y).toNat K
 | .andNot=>λk x y K=>DW k (BitVec.ofInt k.bits x &&& ~~~BitVec.ofInt k.bits y).toNat K
 | .eql=>kN LA
 | .neq=>kN Lj
 | .lss=>kN MH
 | .leq=>kN Mw
 | .gtr=>kN MO
 | .geq=>kN Lv
 | .shl=>kN yg
 | .shr=>kN yg
theorem yE{op:BinOp}{k:IntKind}{a b:Int}{K:AV->Tr R}{s:R}(h:(wK op k a b K).run=some s):∃v,wH op k a b=some v/\(K v).run=some s:=by
 have mk:∀{n:Int},(ki k n K).run=some s->∃v,gJ k n=some v/\(K v).run=some s:=np
 cases op<;>simp only[wK,wH]at h ⊢
 case add=>exact mk h
 case sub=>exact mk h
 case mul=>exact mk h
 case quo=>
  obtain⟨h1,h2⟩:=bu h
  obtain⟨v,h3,h4⟩:=mk h2
  exact⟨v,by rw[Mh,h1];exact h3,h4⟩
 case rem=>
  obtain⟨h1,h2⟩:=bu h
  exact⟨_,by rw[MC,h1,jk];rfl,h2⟩
 case and=>exact nv h
 case or=>exact nv h
 case xor=>exact nv h
 case andNot=>exact nv h
 all_goals exact au h
def Ft(op:BinOp)(k:IntKind)(a:Int)(y:AV)(K:AV->Tr R):Tr R:=match y with
 | .int k' b=>bif mj op then aV (zu op k a b) K else bif hU k k' then wK op k a b K else .fail
 | _=>.fail
theorem BT{op:BinOp}{k:IntKind}{a:Int}{y:AV}{K:AV->Tr R}{s:R}(h:(Ft op k a y K).run=some s):∃v,Gp op k a y=some v/\(K v).run=some s:=by
 cases y<;>simp only[Ft]at h<;>first|(cases h;done)|skip
 simp only[Gp]
 cases hs:mj op with
 | true=>rw[hs]at h;exact au h
 | false=>
   rw[hs]at h
   simp only[cond_false]at h ⊢
   obtain⟨h1,h2⟩:=cW h
   rw[h1]
   exact yE h2
def Fk(op:BinOp)(a:List UInt8)(y:AV)(K:AV->Tr R):Tr R:=match y with
 | .str b=>match op with
   | .add=>eh (Nat.ble (a.length+b.length) 1000000) (K (.str (a++b)))
   | op=>aV (MQ op (nO a b) (af a b)) K
 | _=>.fail
theorem Cg{op:BinOp}{a:List UInt8}{y:AV}{K:AV->Tr R}{s:R}(h:(Fk op a y K).run=some s):∃v,GE op a y=some v/\(K v).run=some s:=by
 cases y<;>simp only[Fk]at h<;>first|(cases h;done)|skip
 cases op<;>simp only[GE]at h ⊢
 case add=>
  obtain⟨h1,h2⟩:=bu h
  exact⟨_,by rw[h1];rfl,h2⟩
 all_goals exact au h
end
end Go.Ev
end
