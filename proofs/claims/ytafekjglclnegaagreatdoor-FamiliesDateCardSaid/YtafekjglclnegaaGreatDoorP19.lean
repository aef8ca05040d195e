import Derived.Test.YtafekjglclnegaaGreatDoorP18
set_option linter.all false
namespace Go.Ev
open Go Go.RowKit
section
variable {cfg:Cfg} (hK:CfgOK cfg) (hRO:∀id,id<cfg.root.n->rwO (cfg.root.at id)=false)
theorem get_cw {ws:List AObj} {o1:Own} (hle:o1.le=[]) {id:Nat}:(id<cfg.root.n->get (Cw cfg ws) o1 id=cfg.root.at id)/\(∀j x,ws[j]? = some x->get (Cw cfg ws) o1 (cfg.root.n+j)=x)/\(∀j,get (Cw cfg ws) o1 (cfg.root.n+ws.length+j)=o1.at j):=by
 refine ⟨fun h=>?_,fun j x hj=>?_,fun j=>?_⟩
 · rw [get,getB]
   simp only [Cw]
   rw [bleF (by omega),cond_false,hle]
   simp only [leAt,getB]
   rw [bleF (by omega),cond_false,ble_iff.2 (Nat.zero_le _),cond_true,Nat.sub_zero]
 · have hlt:=(List.getElem?_eq_some_iff.1 hj).1
   rw [get,getB]
   simp only [Cw]
   rw [bleF (by omega),cond_false,hle]
   simp only [leAt,getB]
   rw [ble_iff.2 (by omega),cond_true]
   unfold Own.at
   simp only
   rw [List.getD_eq_getElem?_getD,List.getElem?_reverse (by omega),show ws.length-1-(ws.length-1-(cfg.root.n+j-cfg.root.n))=j by omega,hj]
   rfl
 · rw [get,getB]
   simp only [Cw]
   rw [ble_iff.2 (by omega),cond_true,show cfg.root.n+ws.length+j-(cfg.root.n+ws.length)=j by omega]
include hK hRO in
theorem cw_inv {C:Ctx} {o:Own} {D:Nat->Prop} {m:Nat->Loc} {w:World} (hi:Inv cfg D m C o w) {L:List Loc} {ws:List AObj} (hL:WOK cfg.root.n D m w L ws) :
 Inv cfg (DL cfg.root.n D L) (mL cfg.root.n m L) (Cw cfg ws) ⟨0,[],[]⟩ w:=by
 have low:∀v,okV D m v->(∀i∈idsA v,i.1<cfg.root.n)->conc (mL cfg.root.n m L) v=conc m v/\okV (DL cfg.root.n D L) (mL cfg.root.n m L) v:=fun v hv hb=>
  ⟨conc_congr v fun i hm=>mL_low (hb i hm),fun i hm=>⟨.inl ⟨hb i hm,(hv i hm).1⟩,by rw [mL_low (hb i hm)];exact (hv i hm).2⟩⟩
 have win:∀j,j<L.length->∃x l,ws[j]? = some x/\L[j]? = some l/\WRel cfg.root.n D m w x l:=fun j h=>by
  have h2:j<ws.length:=by rw [←hL.1];exact h
  exact ⟨_,_,List.getElem?_eq_getElem h2,List.getElem?_eq_getElem h,hL.2 j _ _ (List.getElem?_eq_getElem h2) (List.getElem?_eq_getElem h)⟩
 have mvok:MvOK cfg.root.n [] D (DL cfg.root.n D L) m (mL cfg.root.n m L):=⟨fun i hd h=>⟨.inl ⟨h,hd⟩,mL_low h⟩,fun i j h=>by cases h⟩
 refine ⟨fun id hd=>?_,fun i j hdi hdj hij hl hr=>?_,fun id hd=>?_,fun g hg=>?_,fun id hid=>?_,fun id hid=>(by cases hid),by simp only [Cw];omega,rfl⟩
 · rcases hd with ⟨h1,h2⟩|⟨h1,h2⟩
   · rw [(get_cw rfl).1 h1,mL_low h1,←(hi.root id h1).2]
     exact low_rel mvok (hi.obj id h2) ⟨by rw [(hi.root id h1).2];exact hK.loops id h1,fun i hm=>by rw [(hi.root id h1).2] at hm;exact hK.root id h1 i hm⟩
   · obtain ⟨j,rfl⟩:∃j,id=cfg.root.n+j:=⟨id-cfg.root.n,by omega⟩
     obtain ⟨x,l,hx,hl,cs,rfl,hbl,hok,c,e,fz,hb,hat⟩:=win j (by omega)
     rw [(get_cw (cfg:=cfg) (id:=0) rfl).2.1 j _ hx,mL_at hl]
     have hlow:∀v∈cs,conc (mL cfg.root.n m L) v=conc m v/\okV (DL cfg.root.n D L) (mL cfg.root.n m L) v:=fun v hv=>low v (okL_iff.1 hok v hv) fun i hm=>belowL_ok hbl i (mem_idsL.2 ⟨v,hv,hm⟩)
     exact ⟨c,e,fz,hb,⟨fun i v hv=>by rw [hat i v hv,(hlow v (List.mem_of_getElem? hv)).1],okL_iff.2 fun v hv=>(hlow v hv).2,fun h=>(by cases h),fun s h=>(by cases h)⟩⟩
 · exfalso
   rcases hdj with ⟨h1,h2⟩|⟨h1,h2⟩
   · rw [(get_cw rfl).1 h1,hRO j h1] at hr;cases hr
   · obtain ⟨k,rfl⟩:∃k,j=cfg.root.n+k:=⟨j-cfg.root.n,by omega⟩
     obtain ⟨x,l,hx,hl',cs,rfl,_⟩:=win k (by omega)
     rw [(get_cw (cfg:=cfg) (id:=0) rfl).2.1 k _ hx] at hr
     cases hr
 · rcases hd with ⟨h1,h2⟩|⟨h1,h2⟩
   · simp only [Cw];omega
   · have:=hL.1;simp only [Cw];omega
 · obtain ⟨a1,a2,a3⟩:=hi.glob g hg
   have:=hK.G
   exact ⟨.inl ⟨by omega,a1⟩,by rw [mL_low (by omega)];exact a2,by rw [mL_low (by omega)];exact a3⟩
 · exact ⟨.inl ⟨hid,(hi.root id hid).1⟩,(get_cw rfl).1 hid⟩
theorem win_ok {P:Program} {f:FuncId} {szs:List Nat} {e:WSum} (hK:CfgOK cfg) (hRO:∀id,id<cfg.root.n->rwO (cfg.root.at id)=false) (h:WinOK P cfg f e):GSumOK P cfg f (winS cfg.root.n szs e):=by
 intro C args o t r ht hr
 unfold winS at ht
 rw [ob_some] at ht
 obtain ⟨⟨args',q⟩,hcan,ht⟩:=ht
 simp only [ob_some,Option.some.injEq] at ht
 obtain ⟨t0,he,rfl⟩:=ht
 obtain ⟨hq,hr⟩:=asrt_run hr
 obtain ⟨⟨v,news⟩,hv,hr⟩:=Tr.run_bind hr
 obtain ⟨hfact,hlow⟩:=h args' q.ws t0 (v,news) he hv
 unfold winR at hr
 obtain ⟨v',hmv,hr⟩:=liftK_run hr
 cases hr
 simp only at hmv hfact hlow ⊢
 refine ⟨fun D m w hi hok=>?_,fun hl=>?_⟩
 · have hW0:WOK cfg.root.n D m w [] []:=⟨rfl,fun j x l hj=>by simp at hj⟩
   obtain ⟨L',_,hL,hS⟩:=canL_ok hi (d:=20) (fun {v q v' q'}=>canA_ok hi) hcan hok hq [] hW0
   have hS:=hS []
   simp only [List.nil_append,List.append_nil] at hL hS
   obtain ⟨hc,hok'⟩:=hS
   rw [←hc]
   refine (hfact _ _ w (cw_inv hK hRO hi hL) hok').mono ?_
   rintro V w' ⟨D',m',rfl,hv',hx⟩
   have hlo:=hi.lo
   have hframe:∀k,k<w.heap.size->w'.heap[k]? = w.heap[k]? := fun k hk=>hx.frame k hk fun i hd ho=>by
    exfalso
    have hlt:i<cfg.root.n+q.ws.length:=by
     rcases hd with ⟨h1,_⟩|⟨_,h2⟩
     · omega
     · rw [←hL.1];exact h2
    unfold own? at ho
    rw [bleF (by simp only [Cw];omega),cond_false] at ho
    simp [leAt] at ho
   have hfresh:∀i,D' i->¬DL cfg.root.n D L' i->w.heap.size≤(m' i).blk:=fun i hd hn=>(hx.fresh i hd hn).resolve_right fun ⟨j,hj,ho,_⟩=>by
    have hlt:j<cfg.root.n+q.ws.length:=by
     rcases hj with ⟨h1,_⟩|⟨_,h2⟩
     · omega
     · rw [←hL.1];exact h2
    unfold own? at ho
    rw [bleF (by simp only [Cw];omega),cond_false] at ho
    simp [leAt] at ho
   obtain ⟨D2,hD2⟩:∃D2:Nat->Prop,D2=fun id=>D id∨∃j,j<news.length/\id=C.lo+o.n+j/\D' (cfg.root.n+q.ws.length+j):=⟨_,rfl⟩
   obtain ⟨m2,hm2⟩:∃m2:Nat->Loc,m2=fun id=>if id<C.lo+o.n then m id else m' (cfg.root.n+q.ws.length+(id-(C.lo+o.n))):=⟨_,rfl⟩
   have m2low:∀i,i<C.lo+o.n->m2 i=m i:=fun i h=>by rw [hm2];simp [h]
   have m2new:∀j,m2 (C.lo+o.n+j)=m' (cfg.root.n+q.ws.length+j):=fun j=>by
    rw [hm2]
    simp only [if_neg (by omega:¬C.lo+o.n+j<C.lo+o.n)]
    rw [show C.lo+o.n+j-(C.lo+o.n)=j by omega]
   have hd'low:∀i,D' i->i<cfg.root.n->D i/\m' i=m i:=fun i hd h=>by
    rcases hx.new i hd with h1|h1
    · have:=hx.same i h1
      rcases h1 with ⟨_,h2⟩|⟨h2,_⟩
      · exact ⟨h2,by rw [this,mL_low h]⟩
      · omega
    · simp only [Cw] at h1;omega
   have mvok:MvOK cfg.root.n (ups (cfg.root.n+q.ws.length) (C.lo+o.n) news.length) D' D2 m' m2:=by
    refine ⟨fun i hd h=>?_,fun i j hl hd=>?_⟩
    · obtain ⟨a,b⟩:=hd'low i hd h
      exact ⟨by rw [hD2];exact .inl a,by rw [m2low i (by omega),b]⟩
    · obtain ⟨t,h1,rfl,rfl⟩:=ups_look hl
      exact ⟨by rw [hD2];exact .inr ⟨t,h1,rfl,hd⟩,m2new t⟩
   obtain ⟨hcv,hokv⟩:=mvA_ok mvok hmv hv'
   have hnl:news.length=(⟨news.length,news,[]⟩:Own).n:=rfl
   have gold:∀i,i<C.lo+o.n->get C ⟨news.length+o.n,news++o.os,o.le⟩ i=get C o i:=fun i h=>grown_old (o1:=⟨news.length,news,[]⟩) (o:=o) rfl h
   have gnew:∀j,j<news.length->get C ⟨news.length+o.n,news++o.os,o.le⟩ (C.lo+o.n+j)=(⟨news.length,news,[]⟩:Own).at j:=fun j h=>by
    have:=grown_new (C:=C) (o1:=⟨news.length,news,[]⟩) (o:=o) (i:=C.lo+o.n+j) rfl (by omega) (by simp only;omega)
    rw [show C.lo+o.n+j-(C.lo+o.n)=j by omega] at this
    exact this
   have hold:∀i,D i->i<C.lo+o.n:=hi.lt
   have hnew_low:∀j,j<news.length->LowO cfg.root.n ((⟨news.length,news,[]⟩:Own).at j):=fun j h=>by
    unfold Own.at
    simp only
    rw [List.getD_eq_getElem?_getD,List.getElem?_eq_getElem (by omega)]
    exact hlow _ (List.getElem_mem _)
   have hinv:Inv cfg D2 m2 C ⟨news.length+o.n,news++o.os,o.le⟩ w':=by
    have hi':Inv cfg D m C o w':=hi.world fun j hj hlv=>hframe _ ((hi.obj j hj).in_heap hlv)
    refine ⟨fun id hd=>?_,fun i j hdi hdj hij hl hr=>?_,fun id hd=>?_,fun g hg=>?_,fun id hid=>?_,fun id hid=>hi.le id hid,hi.lo,by simp [hi.len]⟩
    · rw [hD2] at hd
      rcases hd with hd|⟨j,hj,rfl,hd⟩
      · rw [gold id (hold id hd),m2low id (hold id hd)]
        exact (hi'.obj id hd).mono (fun i h=>by rw [hD2];exact .inl h) fun i h=>m2low i (hold i h)
      · rw [gnew j hj,m2new]
        have:=hx.inv.obj _ hd
        rw [(get_cw (cfg:=cfg) (id:=0) rfl).2.2 j] at this
        exact low_rel mvok this (hnew_low j hj)
    · rw [hD2] at hdi hdj
      have isnew:∀j,j<news.length->D' (cfg.root.n+q.ws.length+j)->w.heap.size≤(m' (cfg.root.n+q.ws.length+j)).blk:=fun j hj hd=>hfresh _ hd fun h=>by
       rcases h with ⟨h1,_⟩|⟨_,h2⟩
       · omega
       · rw [hL.1] at h2;omega
      rcases hdi with hdi|⟨a,ha,rfl,hdi⟩<;>rcases hdj with hdj|⟨b,hb,rfl,hdj⟩
      · rw [gold i (hold i hdi)] at hl
        rw [gold j (hold j hdj)] at hr
        rw [m2low i (hold i hdi),m2low j (hold j hdj)]
        exact hi.inj i j hdi hdj hij hl hr
      · rw [gold i (hold i hdi)] at hl
        rw [m2low i (hold i hdi),m2new]
        have h1:=(hi.obj i hdi).in_heap hl
        have h2:=isnew b hb hdj
        omega
      · rw [gold j (hold j hdj)] at hr
        rw [m2low j (hold j hdj),m2new]
        have h1:=(hi.obj j hdj).in_heap (live_of_rw hr)
        have h2:=isnew a ha hdi
        omega
      · rw [gnew a ha] at hl
        rw [gnew b hb] at hr
        rw [m2new,m2new]
        refine hx.inv.inj _ _ hdi hdj (by omega) ?_ ?_
        · rw [(get_cw (cfg:=cfg) (id:=0) rfl).2.2 a];exact hl
        · rw [(get_cw (cfg:=cfg) (id:=0) rfl).2.2 b];exact hr
    · rw [hD2] at hd
      rcases hd with hd|⟨j,hj,rfl,_⟩
      · have:=hold id hd;simp only;omega
      · simp only;omega
    · obtain ⟨a1,a2,a3⟩:=hi.glob g hg
      exact ⟨by rw [hD2];exact .inl a1,by rw [m2low g (hold g a1)];exact a2,by rw [m2low g (hold g a1)];exact a3⟩
    · obtain ⟨a1,a2⟩:=hi.root id hid
      exact ⟨by rw [hD2];exact .inl a1,by rw [gold id (hold id a1)];exact a2⟩
   have hfr2:∀i,D2 i->¬D i->w.heap.size≤(m2 i).blk:=fun i h hn=>by
    rw [hD2] at h
    rcases h with h|⟨j,hj,rfl,hd⟩
    · exact absurd h hn
    · rw [m2new]
      refine hfresh _ hd fun h=>?_
      rcases h with ⟨h1,_⟩|⟨_,h2⟩
      · omega
      · rw [hL.1] at h2;omega
   refine ⟨D2,m2,hcv.symm,hokv,⟨hinv,fun i h=>by rw [hD2];exact .inl h,fun i h=>m2low i (hold i h),fun i h=>?_,by simp only;omega,hx.os,hx.tape,hx.output,hx.size,fun k hk _=>hframe k hk,rfl,fun i h hn=>.inl (hfr2 i h hn)⟩,hframe,hfr2⟩
   rw [hD2] at h
   rcases h with h|⟨j,hj,rfl,_⟩
   · exact .inl h
   · exact .inr (by omega)
 · exact StepF.grown (o1:=⟨news.length,news,[]⟩) hl rfl
end
section
variable {P:Program} {T:Tab} {cfg:Cfg} (g:Base P T cfg) {S:Sums} (hS:SumsOK P cfg S)
include g hS
theorem Base.wsem {f:FuncId} {fn:Func} {c:Code} (hb:bodyOf T f=some (fn,c)) {args:List AV} {ws:List AObj} (hlen:args.length≤1000) {v:AV} {news:List AObj}
 (h:Sem P (cfgS cfg S) (Cw cfg ws) c (startA fn args ⟨0,[],[]⟩) fun x=>∃r,endA T (Cw cfg ws) fn x=some r/\Wk cfg (Cw cfg ws) 0 ⟨.node r.1 .nil .nil,1,r.2,[],none⟩ fun s=>s.o=⟨news.length,news,[]⟩/\s.ts.get 0=v):FactW P cfg f args ws v news:=by
 intro D m w hi hok
 have hi':Inv (cfgS cfg S) D m (Cw cfg ws) ⟨0,[],[]⟩ w:=Inv.to (cfg:=cfg) (cfg':=cfgS cfg S) rfl rfl hi
 refine .inl (sem_enter g.tab hb hlen h hi' hok fun r D' m' w' hr hv he=>?_)
 have he':Ext cfg (Cw cfg ws) D m ⟨0,[],[]⟩ w D' m' r.2 w':=Ext.to (cfg:=cfgS cfg S) (cfg':=cfg) rfl rfl he
 have ht:TR D' m' ⟨.node r.1 .nil .nil,1,r.2,[],none⟩ ⟨#[conc m' r.1],[]⟩:=by
  refine ⟨rfl,fun t=>?_,fun t=>?_,rfl,fun d hd=>(by cases hd),fun i hi=>(by cases hi)⟩
  · by_cases e:t=0
    · subst e;rfl
    · have h1:(Ts.node r.1 .nil .nil).get t=undefA:=by
       rcases Nat.mod_two_eq_zero_or_one t with h2|h2
       · rw [Ts.get_even _ t e h2];exact Ts.get_nil _
       · rw [Ts.get_odd _ t e h2];exact Ts.get_nil _
      rw [h1,conc_undef]
      simp [Array.getD,e]
  · by_cases e:t=0
    · subst e;exact hv
    · have h1:(Ts.node r.1 .nil .nil).get t=undefA:=by
       rcases Nat.mod_two_eq_zero_or_one t with h2|h2
       · rw [Ts.get_even _ t e h2];exact Ts.get_nil _
       · rw [Ts.get_odd _ t e h2];exact Ts.get_nil _
      rw [h1];exact okV_undef
 obtain ⟨s,D2,m2,⟨ho,hvs⟩,h1,_,_,h4,h5⟩:=hr D' m' _ w' he'.inv ht
 have hat:=h1.at' 0
 have hok0:=h1.okt 0
 rw [hvs] at hat hok0
 refine ⟨D2,m2,by rw [←hat];rfl,hok0,?_⟩
 have:=h5 D m ⟨0,[],[]⟩ w (Nat.le_refl _) hi.lt he'
 rw [ho] at this
 exact this
end
abbrev Loops:Type:=Nat->Option (St->Tr (AX×St))
section
variable {R:Type}
abbrev SemF (R:Type):Type:=Tab->Cfg->OrcT->Loops->Nat->CodeK R->Ctx->St->(AX×St->Tr R)->Tr R
def mSkip:SemF R:=fun _ _ _ _ _ _ _ st K=>K (.normal,st)
def mSeq (a b:Code):SemF R:=fun _ _ _ _ _ code C st K=>code C a st fun x=>thenT (code C b) x K
def mCond (c:Operand) (a b:Code):SemF R:=fun _ cfg _ _ _ code C st K=>liftK (evalA cfg.G st.ts c) (condT (fun c=>code C c st K) a b)
def isLoopC:Code->Bool
 | .loop _=>true
 | _=>false
def mBlockL (id:Nat) (b:Code) (code:CodeK R) (C:Ctx) (st:St) (K:AX×St->Tr R) (e:Option (St->Tr (AX×St))):Tr R:=match e with
 | some e=>(e st).then fun r=>K (leaveA id r)
 | none=>code C b st fun r=>K (leaveA id r)
def mBlock (id:Nat) (b:Code):SemF R:=fun _ _ _ L _ code C st K=>bif isLoopC b then mBlockL id b code C st K (L id) else code C b st fun r=>K (leaveA id r)
def mLoop (b:Code):SemF R:=fun _ _ _ _ _ code C st K=>code C b st fun x=>thenT (code C (.loop b)) x K
def mScope (b:Code):SemF R:=fun _ _ _ _ _ code C st K=>code C b st K
def mExit (id:Nat):SemF R:=fun _ _ _ _ _ _ _ st K=>K (.exit id,st)
def mRet:SemF R:=fun _ _ _ _ _ _ _ st K=>K (.ret,st)
def mRegion (ops:Array Oper) (draw:Bool):SemF R:=fun P cfg orcT _ n _ C st K=>
 (regionT P cfg (callT P cfg orcT false (codeT P cfg orcT n)) C (callT P cfg orcT true (codeT P cfg orcT n)) ops draw st .ret).bind fun st'=>K (.normal,st')
def mNone:SemF R:=fun _ _ _ _ _ _ _ _ _=>.fail
def semSel:Code->SemF R
 | .skip=>mSkip
 | .label _=>mSkip
 | .seq a b=>mSeq a b
 | .cond c a b=>mCond c a b
 | .block id b=>mBlock id b
 | .loop b=>mLoop b
 | .scope b=>mScope b
 | .exit id=>mExit id
 | .ret=>mRet
 | .region _ ops draw=>mRegion ops draw
 | _=>mNone
def semT (P:Tab) (cfg:Cfg) (orcT:OrcT) (L:Loops):Nat->CodeK R
 | 0,_,_,_,_=>.fail
 | n+1,C,c,st,K=>semSel c P cfg orcT L n (semT P cfg orcT L n) C st K
end
def LOK (P:Program) (cfg:Cfg) (C:Ctx) (L:Loops):Code->Prop
 | .seq a b=>LOK P cfg C L a/\LOK P cfg C L b
 | .cond _ a b=>LOK P cfg C L a/\LOK P cfg C L b
 | .block id b=>(isLoopC b=true->∀e,L id=some e->∀st Q,(e st).wp Q->Sem P cfg C b st Q)/\LOK P cfg C L b
 | .loop b=>LOK P cfg C L b
 | .scope b=>LOK P cfg C L b
 | _=>True
section
variable {P:Program} {T:Tab} {cfg:Cfg} (g:Good P T cfg) {orcT:OrcT} (ho:OrcTOK cfg orcT) {L:Loops} {C:Ctx} {R:Type} {Q:R->Prop}
include g ho
def SemR (P:Program) (cfg:Cfg) (C:Ctx) (n:Nat) (b:Code) (st:St) (Q:AX×St->Prop):Prop:=
 ∀D m a w,Inv cfg D m C st.o w->TR D m st a->∀K:Exit->Act->World->Prop,
  (∀r,Q r->r.2.ro=st.ro->∀D' m' a' w',TR D' m' r.2 a'->Ext cfg C D m st.o w D' m' r.2.o w'->K (exitOf r.1) a' w')->Code.roundsIn (FR (roB m st.ro)) 0 P b K n a w
omit g ho in
theorem semR_succ {n:Nat} {b:Code} {st:St} {Q:AX×St->Prop} (h:Sem P cfg C b st (thenQ (fun s=>SemR P cfg C n b s Q) Q)):SemR P cfg C (n+1) b st Q:=by
 intro D m a w hi ht K hK
 rw [roundsIn_succ]
 refine h D m a w hi ht _ fun r hr hro D' m' a' w' ht' he=>?_
 have fr:roB m' r.2.ro=roB m st.ro:=by rw [hro,roB_same ht.roD he.same]
 unfold thenQ at hr
 cases hx:r.1 with
 | normal=>
   rw [hx] at hr
   have:=hr D' m' a' w' he.inv ht' K fun r2 hr2 hro2 D2 m2 a2 w2 ht2 he2=>hK r2 hr2 (hro2.trans hro) D2 m2 a2 w2 ht2 (he.trans he2)
   rw [fr] at this
   exact this
 | exit id=>rw [hx] at hr;have:=hK r hr hro D' m' a' w' ht' he;rw [hx] at this;exact this
 | ret=>rw [hx] at hr;have:=hK r hr hro D' m' a' w' ht' he;rw [hx] at this;exact this
omit g ho in
theorem semR_sem {n:Nat} {b:Code} {st:St} {Q:AX×St->Prop} (h:SemR P cfg C n b st Q):Sem P cfg C (.loop b) st Q:=fun D m a w hi ht K hK=>wpIn_loop_rounds n (h D m a w hi ht K hK)
theorem semT_ok':∀n {c:Code} {st:St} {K:AX×St->Tr R},LOK P cfg C L c->(semT T cfg orcT L n C c st K).wp Q->(Sem P cfg C c st fun x=>(K x).wp Q)/\∀b,c=.loop b->SemR P cfg C n b st fun x=>(K x).wp Q
 | 0,c,st,K,hL,h=>h.elim
 | n+1,c,st,K,hL,h=>by
   have ih:=@semT_ok' n
   unfold semT at h
   have thenm:∀{b:Code} {x:AX×St} {K:AX×St->Tr R},LOK P cfg C L b->(thenT (semT T cfg orcT L n C b) x K).wp Q->thenQ (fun s=>Sem P cfg C b s fun x=>(K x).wp Q) (fun x=>(K x).wp Q) x:=by
    intro b x K hb h
    unfold thenT at h
    unfold thenQ
    cases hx:x.1 with
    | normal=>rw [hx] at h;exact (ih hb h).1
    | exit id=>rw [hx] at h;exact h
    | ret=>rw [hx] at h;exact h
   cases c<;>simp only [semSel] at h
   case loop b=>
    have hr:SemR P cfg C (n+1) b st fun x=>(K x).wp Q:=by
     refine semR_succ ((ih (c:=b) hL h).1.mono fun x hx=>?_)
     unfold thenT at hx
     unfold thenQ
     cases hxe:x.1 with
     | normal=>rw [hxe] at hx;exact (ih (c:=.loop b) hL hx).2 b rfl
     | exit id=>rw [hxe] at hx;exact hx
     | ret=>rw [hxe] at hx;exact hx
    refine ⟨semR_sem hr,fun b' e=>?_⟩
    cases e
    exact hr
   all_goals refine ⟨?_,fun b e=>by cases e⟩
   case skip=>exact sem_skip h
   case label=>exact sem_label h
   case exit=>exact sem_exit h
   case ret=>exact sem_ret h
   case seq a b=>exact sem_seq ((ih hL.1 h).1.mono fun x hx=>thenm hL.2 hx)
   case cond c a b=>
    unfold mCond at h
    cases hv:evalA cfg.G st.ts c with
    | none=>rw [hv] at h;exact h.elim
    | some v=>
      rw [hv] at h
      have h:(condT (fun c=>semT T cfg orcT L n C c st K) a b v).wp Q:=h
      unfold condT at h
      cases v<;>simp only at h<;>first|exact h.elim|skip
      rename_i d
      refine sem_cond hv (fun e=>?_) (fun e=>?_)
      · subst e;exact (ih hL.1 h).1
      · subst e;exact (ih hL.2 h).1
   case block id b=>
    unfold mBlock at h
    refine sem_block ?_
    cases hb:isLoopC b with
    | false=>rw [hb] at h;exact (ih hL.2 h).1
    | true=>
      rw [hb,cond_true] at h
      unfold mBlockL at h
      cases he:L id with
      | none=>rw [he] at h;exact (ih hL.2 h).1
      | some e=>rw [he] at h;exact hL.1 hb e he st _ (Tr.wp_then h)
   case scope b=>exact sem_scope (ih (c:=b) hL h).1
   case region id ops draw=>
    unfold mRegion at h
    obtain ⟨st',hr,h⟩:=Tr.wp_bind h
    obtain ⟨st2,hs,h2⟩:=regionT_run (rnd:=roundA (codeA T cfg n)) (callT_run ho (codeT_run ho n)) (callT_run ho (codeT_run ho n)) hr
    cases h2
    refine sem_code g (n:=n+1) (r:=(.normal,st')) ?_ h
    rw [codeA,codeSel,cRegion]
    simp only [hs,ob]
   all_goals exact h.elim
theorem semT_ok {n:Nat} {c:Code} {st:St} {K:AX×St->Tr R} (hL:LOK P cfg C L c) (h:(semT T cfg orcT L n C c st K).wp Q):Sem P cfg C c st fun x=>(K x).wp Q:=(semT_ok' g ho n hL h).1
end
def anyT (J:Nat->Value):Nat->Ts->Ts
 | 0,t=>t
 | n+1,t=>anyT J n (Ts.set 20 t n (.any (J n)))
def setAll:List Nat->List AV->Ts->Ts
 | i::is,v::vs,t=>setAll is vs (Ts.set 20 t i v)
 | _,_,t=>t
def stN (tn:Nat) (rel:List Nat) (vals:List AV) (J:Nat->Value) (o:Own):St:=⟨setAll rel vals (anyT J tn .nil),tn,o,[],none⟩
def getAll (st:St):List Nat->List AV
 | []=>[]
 | i::is=>st.ts.get i::getAll st is
def noDs:List Nat->Bool
 | []=>true
 | _=>false
def noRo:Option Nat->Bool
 | none=>true
 | _=>false
def viewK {R:Type} (tn:Nat) (rel:List Nat) (K:AX×List AV×Own->Tr R) (r:AX×St):Tr R:=bif Nat.beq r.2.tn tn&&noDs r.2.ds then K (r.1,getAll r.2 rel,r.2.o) else .fail
abbrev LoopV:Type:=List AV->Own->Option (Tr (AX×List AV×Own))
def loopE (tn:Nat) (rel:List Nat) (vw:LoopV) (st:St):Tr (AX×St):=
 bif Nat.beq st.tn tn&&noDs st.ds&&noRo st.ro then liftK (vw (getAll st rel) st.o) fun t=>t.then fun q=>.all fun J=>.ret (q.1,stN tn rel q.2.1 J q.2.2) else .fail
def LoopVOK (P:Program) (cfg:Cfg) (C:Ctx) (b:Code) (tn:Nat) (rel:List Nat) (vw:LoopV):Prop:=
 ∀vs o t Q,vw vs o=some t->t.wp Q->∀J,Sem P cfg C (.loop b) (stN tn rel vs J o) fun r=>∃ax vs' o' J',Q (ax,vs',o')/\r=(ax,stN tn rel vs' J' o')
theorem any_get {J:Nat->Value}:∀{n:Nat} {t:Ts} {i:Nat},n<1000000->(anyT J n t).get i=if i<n then .any (J i) else t.get i
 | 0,t,i,_=>by simp [anyT]
 | n+1,t,i,h=>by
   have hk:n<2^20-1:=Nat.lt_of_lt_of_le (by omega) (by decide:1000000≤2^20-1)
   rw [anyT,any_get (by omega),Ts.get_set 20 _ _ _ _ hk]
   by_cases h1:i<n
   · rw [if_pos h1,if_pos (by omega)]
   · rw [if_neg h1]
     by_cases e:i=n
     · subst e;rw [if_pos rfl,if_pos (by omega)]
     · rw [if_neg e,if_neg (by omega)]
theorem all_get {f:Nat->AV}:∀{rel:List Nat} {vs:List AV} {t:Ts} {i:Nat},vs.length=rel.length->(∀k,k<rel.length->vs.getD k undefA=f (rel.getD k 0))->(∀k∈rel,k<1000000)->(setAll rel vs t).get i=if i∈rel then f i else t.get i
 | [],vs,t,i,_,_,_=>by cases vs<;>simp [setAll]
 | r::rel,[],t,i,h,_,_=>by simp at h
 | r::rel,v::vs,t,i,h,hf,hr=>by
   have hk:r<2^20-1:=Nat.lt_of_lt_of_le (hr r List.mem_cons_self) (by decide:1000000≤2^20-1)
   rw [setAll,all_get (f:=f) (by simpa using h) (fun k hk=>by simpa using hf (k+1) (by simpa using hk)) (fun k hk=>hr k (List.mem_cons_of_mem _ hk)),Ts.get_set 20 _ _ _ _ hk]
   by_cases h1:i∈rel
   · rw [if_pos h1,if_pos (List.mem_cons_of_mem _ h1)]
   · rw [if_neg h1]
     by_cases e:i=r
     · subst e
       rw [if_pos rfl,if_pos List.mem_cons_self]
       have:=hf 0 (by simp)
       simpa using this
     · rw [if_neg e,if_neg (by simp [e,h1])]
theorem getAll_map (st:St):∀rel:List Nat,getAll st rel=rel.map st.ts.get
 | []=>rfl
 | i::is=>by simp [getAll,getAll_map st is]
theorem allLt_mem {n:Nat}:∀{l:List Nat},allLt n l=true->∀k∈l,k<n
 | [],_,k,hk=>by cases hk
 | x::xs,h,k,hk=>by
   rw [allLt,Bool.and_eq_true,natLt_iff] at h
   rcases List.mem_cons.1 hk with rfl|hk
   · exact h.1
   · exact allLt_mem h.2 k hk
section
variable {cfg:Cfg} {C:Ctx}
theorem wk_view {k tn:Nat} {rel:List Nat} (ht:tn<1000000) (hrel:allLt tn rel=true) {st:St} (h1:st.tn=tn) (h2:st.ds=[]) (h3:st.ro=none) :
 Wk cfg C k st fun s=>∃J,s=stN tn rel (getAll st rel) J st.o:=by
 intro D m a w hi htr
 have hr:∀k∈rel,k<tn:=allLt_mem hrel
 have hget:∀i,(setAll rel (getAll st rel) (anyT (fun t=>conc m (st.ts.get t)) tn .nil)).get i=if i∈rel then st.ts.get i else if i<tn then .any (conc m (st.ts.get i)) else undefA:=fun i=>by
  rw [all_get (f:=st.ts.get) (by rw [getAll_map];simp) (fun k hk=>by rw [getAll_map];simp [List.getD_eq_getElem?_getD,hk]) (fun k hk=>Nat.lt_trans (hr k hk) ht),any_get ht,Ts.get_nil]
 refine ⟨stN tn rel (getAll st rel) (fun t=>conc m (st.ts.get t)) st.o,D,m,⟨_,rfl⟩,⟨by rw [htr.size,h1];rfl,fun t=>?_,fun t=>?_,by rw [htr.defers,h2];rfl,fun d hd=>(by cases hd),fun i hi=>(by cases hi)⟩,h3.symm,by rw [h3];rfl,hi,fun _ _ _ _ _ _ h=>h⟩
 · show a.tmps.getD t undef=conc m ((setAll rel (getAll st rel) (anyT (fun t=>conc m (st.ts.get t)) tn .nil)).get t)
   rw [hget t]
   split
   · exact htr.at' t
   · split
     · simp only [conc];exact htr.at' t
     · rename_i h
       rw [conc_undef]
       have hs:=htr.size
       simp only [Array.getD]
       rw [dif_neg (by omega)]
 · show okV D m ((setAll rel (getAll st rel) (anyT (fun t=>conc m (st.ts.get t)) tn .nil)).get t)
   rw [hget t]
   split
   · exact htr.okt t
   · split
     · exact okV_none (by simp [idsA])
     · exact okV_undef
def VW (cfg:Cfg) (C:Ctx) (kb tn:Nat) (rel:List Nat) (vs:List AV) (o:Own) (vs':List AV) (o':Own):Prop:=∀J,Wk cfg C kb (stN tn rel vs J o) fun s=>∃J',s=stN tn rel vs' J' o'
theorem VW.refl {kb tn:Nat} {rel:List Nat} {vs:List AV} {o:Own}:VW cfg C kb tn rel vs o vs o:=fun J=>Wk.refl ⟨J,rfl⟩
theorem VW.of_eq {kb tn:Nat} {rel:List Nat} {vs vs':List AV} {o o':Own} (h1:vs=vs') (h2:o=o'):VW cfg C kb tn rel vs o vs' o':=by subst h1 h2;exact VW.refl
inductive AnyL:List AV->List AV->Prop
 | nil:AnyL [] []
 | same {v:AV} {vs vs':List AV}:AnyL vs vs'->AnyL (v::vs) (v::vs')
 | int {k:IntKind} {n:Int} {vs vs':List AV}:AnyL vs vs'->AnyL (.int k n::vs) (.any (.int k n)::vs')
 | bool {b:Bool} {vs vs':List AV}:AnyL vs vs'->AnyL (.bool b::vs) (.any (.bool b)::vs')
 | str {s:List UInt8} {vs vs':List AV}:AnyL vs vs'->AnyL (.str s::vs) (.any (.string ⟨⟨s⟩⟩)::vs')
 | any {v:AV} {c:Value} {vs vs':List AV}:(∀m,conc m v=c)->AnyL vs vs'->AnyL (v::vs) (.any c::vs')
theorem AnyL.ok {D:Nat->Prop} {m:Nat->Loc}:∀{vs vs':List AV},AnyL vs vs'->vs.length=vs'.length/\∀i,conc m (vs'.getD i undefA)=conc m (vs.getD i undefA)/\(okV D m (vs.getD i undefA)->okV D m (vs'.getD i undefA)):=by
 intro vs vs' h
 have step:∀{v v':AV} {vs vs':List AV},conc m v'=conc m v->(okV D m v->okV D m v')->(vs.length=vs'.length/\∀i,conc m (vs'.getD i undefA)=conc m (vs.getD i undefA)/\(okV D m (vs.getD i undefA)->okV D m (vs'.getD i undefA)))->((v::vs).length=(v'::vs').length/\∀i,conc m ((v'::vs').getD i undefA)=conc m ((v::vs).getD i undefA)/\(okV D m ((v::vs).getD i undefA)->okV D m ((v'::vs').getD i undefA))):=by
  intro v v' vs vs' h1 h2 h3
  refine ⟨by simp [h3.1],fun i=>?_⟩
  cases i with
  | zero=>exact ⟨h1,h2⟩
  | succ i=>exact h3.2 i
 have nid:∀{c:Value},okV D m (.any c):=okV_none (by simp [idsA])
 induction h with
 | nil=>exact ⟨rfl,fun i=>⟨rfl,id⟩⟩
 | same _ ih=>exact step rfl id ih
 | int _ ih=>exact step (by simp [conc]) (fun _=>nid) ih
 | bool _ ih=>exact step (by simp [conc]) (fun _=>nid) ih
 | str _ ih=>exact step (by simp [conc]) (fun _=>nid) ih
 | any hc _ ih=>exact step (by rw [hc m];simp [conc]) (fun _=>nid) ih
theorem all_rel {R:AV->AV->Prop}:∀{rel:List Nat} {vs vs':List AV} {t t':Ts},vs.length=vs'.length->(∀i,R (vs.getD i undefA) (vs'.getD i undefA))->(∀i,R (t.get i) (t'.get i))->(∀k∈rel,k<1000000)->∀i,R ((setAll rel vs t).get i) ((setAll rel vs' t').get i)
 | [],vs,vs',t,t',hl,hv,h,_,i=>by cases vs<;>cases vs'<;>exact h i
 | r::rel,[],[],t,t',hl,hv,h,_,i=>h i
 | r::rel,v::vs,v'::vs',t,t',hl,hv,h,hr,i=>by
   have hk:r<2^20-1:=Nat.lt_of_lt_of_le (hr r List.mem_cons_self) (by decide:1000000≤2^20-1)
   refine all_rel (rel:=rel) (vs:=vs) (vs':=vs') (by simpa using hl) (fun i=>hv (i+1)) (fun i=>?_) (fun k hk=>hr k (List.mem_cons_of_mem _ hk)) i
   rw [Ts.get_set 20 _ _ _ _ hk,Ts.get_set 20 _ _ _ _ hk]
   split
   · exact hv 0
   · exact h i
 | r::rel,[],_::_,_,_,hl,_,_,_,_=>by cases hl
 | r::rel,_::_,[],_,_,hl,_,_,_,_=>by cases hl
theorem VW.any {kb tn:Nat} {rel:List Nat} {vs vs':List AV} {o:Own} (h:AnyL vs vs') (hrel:allLt 1000000 rel=true):VW cfg C kb tn rel vs o vs' o:=by
 intro J D m a w hi ht
 obtain ⟨h1,h2⟩:=h.ok (D:=D) (m:=m)
 have key:=all_rel (R:=fun v v'=>conc m v'=conc m v/\(okV D m v->okV D m v')) (rel:=rel) (t:=anyT J tn .nil) (t':=anyT J tn .nil) h1 h2 (fun i=>⟨rfl,id⟩) (allLt_mem hrel)
 refine ⟨stN tn rel vs' J o,D,m,⟨J,rfl⟩,⟨ht.size,fun t=>?_,fun t=>(key t).2 (ht.okt t),ht.defers,ht.dsD,ht.roD⟩,rfl,rfl,hi,fun _ _ _ _ _ _ h=>h⟩
 exact (ht.at' t).trans (key t).1.symm
theorem mvT_set {f:AV->Option AV} (hu:f undefA=some undefA) {v v':AV} (hv:f v=some v'):∀{d:Nat} {t t':Ts} {i:Nat},mvT f t=some t'->mvT f (Ts.set d t i v)=some (Ts.set d t' i v')
 | 0,t,t',i,h=>h
 | d+1,t,t',i,h=>by
   have parts:f t.val=some t'.val/\mvT f t.left=some t'.left/\mvT f t.right=some t'.right:=by
    cases t with
    | nil=>cases h;exact ⟨hu,rfl,rfl⟩
    | node x l r=>
      simp only [mvT,ob_some,Option.some.injEq] at h
      obtain ⟨x',hx,l',hl,r',hr,rfl⟩:=h
      exact ⟨hx,hl,hr⟩
   obtain ⟨p1,p2,p3⟩:=parts
   unfold Ts.set
   cases Nat.beq i 0 with
   | true=>simp only [cond_true,mvT,hv,p2,p3,ob]
   | false=>
     simp only [cond_false]
     cases Nat.beq (i%2) 1 with
     | true=>simp only [cond_true,mvT,p1,mvT_set hu hv (d:=d) p2,p3,ob]
     | false=>simp only [cond_false,mvT,p1,mvT_set hu hv (d:=d) p3,p2,ob]
theorem mvT_any {f:AV->Option AV} (hu:f undefA=some undefA) (ha:∀v,f (.any v)=some (.any v)) {J:Nat->Value}:∀{n:Nat} {t:Ts},mvT f t=some t->mvT f (anyT J n t)=some (anyT J n t)
 | 0,t,h=>h
 | n+1,t,h=>mvT_any (n:=n) (t:=Ts.set 20 t n (.any (J n))) hu ha (mvT_set hu (ha (J n)) h)
theorem mvT_all {f:AV->Option AV} (hu:f undefA=some undefA):∀{rel:List Nat} {vs vs':List AV} {t t':Ts},mvL f vs=some vs'->mvT f t=some t'->mvT f (setAll rel vs t)=some (setAll rel vs' t')
 | [],vs,vs',t,t',_,h=>by cases vs<;>cases vs'<;>exact h
 | r::rel,[],vs',t,t',hv,h=>by cases hv;exact h
 | r::rel,v::vs,vs',t,t',hv,h=>by
   simp only [mvL,ob_some,Option.some.injEq] at hv
   obtain ⟨v1,h1,vs1,h2,rfl⟩:=hv
   exact mvT_all (rel:=rel) (vs:=vs) (vs':=vs1) hu h2 (mvT_set hu h1 h)
theorem VW.move (hK:CfgOK cfg) {kb tn:Nat} {rel:List Nat} {sel:List Nat} {vs vs':List AV} {o o':Own} (hlow:LowC C) (hkb:kb≤o.n)
 (hsel:∀s∈sel,kb≤s/\s<o.n) (hnd:sel.Nodup)
 (hle:∀p∈o.le,LowO (C.lo+kb) p.2) (hle':o'.le=o.le) (hn:o'.n=kb+sel.length) (hlen:o'.os.length=o'.n)
 (hold:∀i,i<kb->o'.at i=o.at i/\LowO (C.lo+kb) (o.at i))
 (hnew:∀t,t<sel.length->MvO (C.lo+kb) (pairs C.lo kb sel) (o.at (sel.getD t 0)) (o'.at (kb+t)))
 (hvs:mvL (mvA (C.lo+kb) (pairs C.lo kb sel) 20) vs=some vs'):VW cfg C kb tn rel vs o vs' o':=by
 intro J
 have hts:mvT (mvA (C.lo+kb) (pairs C.lo kb sel) 20) (stN tn rel vs J o).ts=some (setAll rel vs' (anyT J tn .nil)):=mvT_all (f:=mvA (C.lo+kb) (pairs C.lo kb sel) 20) (rel:=rel) rfl hvs (mvT_any (f:=mvA (C.lo+kb) (pairs C.lo kb sel) 20) (n:=tn) (t:=.nil) rfl (fun _=>rfl) rfl)
 refine (wk_move hK (st:=stN tn rel vs J o) hlow hkb hsel hnd hle hle' hn hlen hold hnew hts (fun d hd=>by cases hd) (fun i hi=>by cases hi)).mono fun s hs=>⟨J,?_⟩
 rw [hs];rfl
end
section
variable {P:Program} {T:Tab} {cfg:Cfg} (g:Good P T cfg) {orcT:OrcT} (ho:OrcTOK cfg orcT) {L:Loops} {C:Ctx}
include g ho
theorem loop_view {n kb tn:Nat} {rel:List Nat} {b:Code} (htn:tn<1000000) (hrel:allLt tn rel=true) (hL:LOK P cfg C L b) {ι:Type} (vals:ι->List AV) (own:ι->Own) (μ:ι->Nat) (hkb:∀x,kb≤(own x).n) {Q:AX×List AV×Own->Prop}
 (hr:∀x J,(semT T cfg orcT L n C b (stN tn rel (vals x) J (own x)) (viewK tn rel .ret)).wp fun q=>match q.1 with
   | .normal=>∃y,μ y<μ x/\VW cfg C kb tn rel q.2.1 q.2.2 (vals y) (own y)
   | ax=>∃vs2 o2,VW cfg C kb tn rel q.2.1 q.2.2 vs2 o2/\Q (ax,vs2,o2)) {vs:List AV} {o:Own} (hk:o.n≤kb) (h0:∀J,Wk cfg C kb (stN tn rel vs J o) fun s=>∃x J',s=stN tn rel (vals x) J' (own x)) (J:Nat->Value) :
 Sem P cfg C (.loop b) (stN tn rel vs J o) fun r=>∃ax vs' o' J',Q (ax,vs',o')/\r=(ax,stN tn rel vs' J' o'):=by
 have hnone:∀{r:AX×St} {s:St},r.2.ro=s.ro->s.ro=none->r.2.ro=none:=fun h1 h2=>h1.trans h2
 refine sem_post (k:=kb) (Q':=fun r=>(∃vs2 o2,VW cfg C kb tn rel (getAll r.2 rel) r.2.o vs2 o2/\Q (r.1,vs2,o2))/\r.2.tn=tn/\r.2.ds=[]/\r.2.ro=none) ?_ hk ?_
 · refine sem_loop (k:=kb) μ (fun x s=>∃J',s=stN tn rel (vals x) J' (own x)) (h0 J) hk ?_
   rintro x s ⟨J1,rfl⟩
   have hs:=semT_ok g ho hL (hr x J1)
   have hs2:Sem P cfg C b (stN tn rel (vals x) J1 (own x)) fun r=>r.2.ro=none/\(viewK tn rel Tr.ret r).wp fun q=>match q.1 with
    | .normal=>∃y,μ y<μ x/\VW cfg C kb tn rel q.2.1 q.2.2 (vals y) (own y)
    | ax=>∃vs2 o2,VW cfg C kb tn rel q.2.1 q.2.2 vs2 o2/\Q (ax,vs2,o2):=fun D m a w hi ht K hK=>hs D m a w hi ht K fun r hq hro=>hK r ⟨hro,hq⟩ hro
   refine hs2.mono fun r ⟨hro,hq⟩=>?_
   unfold viewK at hq
   cases hb:(Nat.beq r.2.tn tn&&noDs r.2.ds) with
   | false=>rw [hb] at hq;exact hq.elim
   | true=>
     rw [hb,cond_true] at hq
     rw [Bool.and_eq_true,beq_iff] at hb
     have hds:r.2.ds=[]:=by
      have:=hb.2
      cases hd:r.2.ds with
      | nil=>rfl
      | cons x xs=>rw [hd] at this;cases this
     simp only [Tr.wp] at hq
     unfold thenQ
     cases hx:r.1 with
     | normal=>
       rw [hx] at hq
       obtain ⟨y,hy,hv⟩:=hq
       refine (wk_view htn hrel hb.1 hds hro).trans fun s=>?_
       rintro ⟨J2,rfl⟩
       exact (hv J2).mono fun s2 ⟨J3,e⟩=>⟨y,hy,J3,e⟩
     | exit id=>rw [hx] at hq;exact ⟨by rw [hx];exact hq,hb.1,hds,hro⟩
     | ret=>rw [hx] at hq;exact ⟨by rw [hx];exact hq,hb.1,hds,hro⟩
 · rintro r ⟨⟨vs2,o2,hv,hq⟩,h1,h2,h3⟩
   refine (wk_view htn hrel h1 h2 h3).trans fun s=>?_
   rintro ⟨J2,rfl⟩
   exact (hv J2).mono fun s ⟨J3,e⟩=>⟨_,_,_,J3,hq,by rw [e]⟩
omit ho in
theorem loopE_ok {b:Code} {tn:Nat} {rel:List Nat} {vw:LoopV} (htn:tn<1000000) (hrel:allLt tn rel=true) (h:LoopVOK P cfg C b tn rel vw) {st:St} {Q:AX×St->Prop} (hw:(loopE tn rel vw st).wp Q):Sem P cfg C (.loop b) st Q:=by
 unfold loopE at hw
 cases hb:(Nat.beq st.tn tn&&noDs st.ds&&noRo st.ro) with
 | false=>rw [hb] at hw;exact hw.elim
 | true=>
   rw [hb,cond_true] at hw
   rw [Bool.and_eq_true,Bool.and_eq_true,beq_iff] at hb
   have hds:st.ds=[]:=by
    have:=hb.1.2
    cases hd:st.ds with
    | nil=>rfl
    | cons x xs=>rw [hd] at this;cases this
   have hro:st.ro=none:=by
    have:=hb.2
    cases hd:st.ro with
    | none=>rfl
    | some x=>rw [hd] at this;cases this
   cases hv:vw (getAll st rel) st.o with
   | none=>rw [hv] at hw;exact hw.elim
   | some t=>
     rw [hv] at hw
     have hw:=Tr.wp_then (t:=t) hw
     refine sem_pre (k:=st.o.n) (wk_view htn hrel hb.1.1 hds hro) (Nat.le_refl _) fun s=>?_
     rintro ⟨J,rfl⟩
     refine (h _ _ t _ hv hw J).mono ?_
     rintro r ⟨ax,vs',o',J',hq,rfl⟩
     exact hq J'
end
def loopsOf:Code->List (Nat×Code)
 | .seq a b=>loopsOf a++loopsOf b
 | .cond _ a b=>loopsOf a++loopsOf b
 | .block id b=>match b with
   | .loop c=>(id,c)::loopsOf c
   | b=>loopsOf b
 | .loop b=>loopsOf b
 | .scope b=>loopsOf b
 | _=>[]
theorem lok_of {P:Program} {cfg:Cfg} {C:Ctx} {L:Loops}:∀{c:Code},(∀p∈loopsOf c,∀e,L p.1=some e->∀st Q,(e st).wp Q->Sem P cfg C (.loop p.2) st Q)->LOK P cfg C L c
 | .seq a b,h=>by
   simp only [loopsOf,List.mem_append] at h
   exact ⟨lok_of fun p hp=>h p (.inl hp),lok_of fun p hp=>h p (.inr hp)⟩
 | .cond _ a b,h=>by
   simp only [loopsOf,List.mem_append] at h
   exact ⟨lok_of fun p hp=>h p (.inl hp),lok_of fun p hp=>h p (.inr hp)⟩
 | .block id b,h=>by
   have hl:∀c,b=.loop c->LOK P cfg C L (.block id b):=by
    rintro c rfl
    simp only [loopsOf] at h
    exact ⟨fun _ e he st Q hw=>h (id,c) List.mem_cons_self e he st Q hw,lok_of (c:=c) fun p hp=>h p (List.mem_cons_of_mem _ hp)⟩
   cases b with
   | loop c=>exact hl c rfl
   | _=>exact ⟨fun hb=>(by cases hb),lok_of (by simpa only [loopsOf] using h)⟩
 | .loop b,h=>lok_of (c:=b) (by simpa only [loopsOf] using h)
 | .scope b,h=>lok_of (c:=b) (by simpa only [loopsOf] using h)
 | .skip,_=>trivial
 | .region _ _ _,_=>trivial
 | .exit _,_=>trivial
 | .label _,_=>trivial
 | .goto _,_=>trivial
 | .ret,_=>trivial
 | .refuse _,_=>trivial
 | .rangeFunc _ _ _ _,_=>trivial
end Go.Ev
