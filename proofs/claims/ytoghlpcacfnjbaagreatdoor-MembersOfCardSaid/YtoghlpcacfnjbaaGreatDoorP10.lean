import Derived.OrdersIn
import Derived.LoopNIn
import Derived.Test.YtoghlpcacfnjbaaGreatDoorP09
set_option linter.all false
set_option maxRecDepth 100000
set_option maxHeartbeats 4000000
namespace Go.Ev
open Go Go.RowKit
variable{ops:Array Oper}{C:bg}{o o1 o0:aC}{op:Op}{r:AV×aC}{id i:Nat}{x:Option Nat}{st st':St}{draw:Bool}{fn:Func}{c:Code}{args:List AV}
theorem ES{m:Nat->bq}{ts:Ts}{a:Act}{oo:Oper}(h:∀t,EB ops oo.guard=some t->a.tmps.getD t undef=aj m (ts.get t)):Region.wanted oo (yielded ops a.tmps)=eE ops ts oo.guard:=by
 unfold Region.wanted eE;cases hgd:oo.guard with
 | none=>rfl
 | some jw=>
   obtain⟨j,want⟩:=jw;simp only[yielded];cases hj:ops[j]? with
   | none=>simp
   | some op=>
     cases hd:op.dst with
     | none=>simp[hd,rn]
     | some t=>
       have hat:=h t (by simp[hgd,EB,hj,ob,hd]);simp only[Option.bind_some,hd,rn];cases hg:a.tmps[t]? with
       | none=>
         have:a.tmps.getD t undef=undef:=by
          grind
         rw[this]at hat;cases hv:ts.get t<;>rw[hv]at hat<;>simp[aj,undef]at hat<;>first|rfl|(subst hat;rfl)
       | some v=>
         have:a.tmps.getD t undef=v:=by simp[hg]
         rw[this]at hat;subst hat;cases hv:ts.get t with
         | any v=>simp only[aj,yE];cases v<;>simp[Bw,rM]
         | _=>simp[aj,yE,rM]
theorem H0{T:fb}{cfg:cG}{ρ:Operand->Option AV}{call:bg->FuncId->List AV->aC->Option (AV×aC)}(hk:mB (b8 op))(h:gM T call sY C ρ o op=some r) :
 ∃id,cW cfg ρ op=.reads id/\∀x∈op.operands.toList,∀v i,ρ x=some v->du v=some i->i=id:=by
 have main:∀t a,op=.load t a->∃id,cW cfg ρ op=.reads id/\∀x∈op.operands.toList,∀v i,ρ x=some v->du v=some i->i=id:=by
  rintro t a rfl;change Do T C ρ o (.load t a)=some r at h;simp only[Do,gT,th]at h;obtain⟨h1,_⟩:=bN.1 h;simp only[ai]at h1;obtain⟨v,hv,h1⟩:=h1;cases v<;>simp only[rJ,reduceCtorEq]at h1;rename_i id off;refine⟨id,by simp only[cW,hv,ob,du,IC],λx hx v i hxv hn=>?_⟩;simp only[Op.operands,List.mem_singleton]at hx;subst hx;rw[hv]at hxv;cases hxv;cases hn;rfl
 cases op<;>first|exact main _ _ rfl|(cases hk;done)|skip
 rename_i c;simp only[b8]at hk;cases hcal:c.callee with
 | value f=>rw[hcal]at hk;cases hk
 | invoke x n=>rw[hcal]at hk;cases hk
 | builtin b=>rw[hcal]at hk;cases b<;>cases hk
section
variable{P:Program}{T:fb}(hT:fF P T){cfg:cG}{call:bg->FuncId->List AV->aC->Option (AV×aC)}(hcall:jF P cfg True call)(hc:b9 cfg call){C:bg}{ops:Array Oper}{S:Nat->St}(hR:ns T cfg call C ops S)(hA:AJ cfg ops S)
 {D0:Nat->Prop} {m0:Nat->bq} {w0:World} {E D:Nat->Prop} {m:Nat->bq} {a:Act} {w:World} {e:Nat} (h:DI cfg C ops S D0 m0 w0 E D m a w)
 (hdown:∀j,E j->kX ops E j) (he:e<ops.size) (hE:¬E e) (hw:kX ops E e)
include hR hc h he
omit hc in
theorem Py(hc:b9 cfg call)(hall:∀i,jq cfg ops S E i e):dV cfg (yP C S D e) m C (S e).o w:=by
 have h0:=hR.mono' hc (k:=0) (k':=e) (by omega) (by omega);refine⟨λi hi=>h.obj i e (by omega) hi.1 hi.2 (hall i),λi j hi hj hij hl hr=>h.inj i j e (by omega) hi.1 hj.1 hi.2 hj.2 (hall i) (hall j) hij hl hr,λi hi=>hi.2,λg hg=>?_,λi hi=>?_,λi hi=>?_,hR.lo,hR.len hc e (by omega)⟩
 . obtain⟨g1,g2,g3⟩:=h.glob g hg;have:=hR.g0 g hg;exact⟨⟨g1,by omega⟩,g2,g3⟩
 . have:=hR.lo;exact⟨⟨(h.root i hi).1,by omega⟩,by rw[hR.root hc e (by omega) hi];exact(h.root i hi).2⟩
 . rw[hR.le hc e (by omega)]at hi;exact hR.le0 i hi
open Classical in
noncomputable def tF(cfg:cG)(C:bg)(ops:Array Oper)(S:Nat->St)(E:Nat->Prop)(e i:Nat):aE:=if jq cfg ops S E i e then get C (S e).o i else .dead
omit hc in
theorem Dl(hc:b9 cfg call){l:List aE}(hid:id<C.lo+(S e).o.n):get (qR cfg (tF cfg C ops S E e) (C.lo+(S e).o.n)) (iC l qJ) id=tF cfg C ops S E e id:=by
 rw[Fb hid];by_cases hr:cfg.root.n<=id
 . grind
 . rw[if_neg hr];have hcb:jq cfg ops S E id e:=λj hj hw=>absurd hw.2 hr;unfold tF;rw[if_pos hcb,hR.root hc e (by omega) (by omega)];exact((h.root id (by omega)).2).symm
omit hc in
theorem No(hc:b9 cfg call):dV cfg (yP C S D e) m (qR cfg (tF cfg C ops S E e) (C.lo+(S e).o.n)) qJ w:=by
 have h0:=hR.mono' hc (k:=0) (k':=e) (by omega) (by omega);have hg:∀i,i<C.lo+(S e).o.n->get (qR cfg (tF cfg C ops S E e) (C.lo+(S e).o.n)) qJ i=tF cfg C ops S E e i:=λi hi=>Dl (l:=[]) hR h he hc hi;have hlo:=hR.lo;refine⟨λi hi=>?_,λi j hi hj hij hl hr=>?_,λi hi=>hi.2,λg hgl=>?_,λi hi=>?_,λi hi=>(by cases hi),(by simp only[qR];omega),rfl⟩
 . rw[hg i hi.2];unfold tF;split
   . rename_i hcb;exact h.obj i e (by omega) hi.1 hi.2 hcb
   . trivial
 . rw[hg i hi.2]at hl;rw[hg j hj.2]at hr;unfold tF at hl hr;split at hl
   . rename_i hci;split at hr
     . rename_i hcj;exact h.inj i j e (by omega) hi.1 hj.1 hi.2 hj.2 hci hcj hij hl hr
     . cases hr
   . cases hl
 . obtain⟨g1,g2,g3⟩:=h.glob g hgl;have:=hR.g0 g hgl;exact⟨⟨g1,by omega⟩,g2,g3⟩
 . have hin:i<C.lo+(S e).o.n:=by omega
   refine⟨⟨(h.root i hi).1,hin⟩,?_⟩;have hh:=Fb (cfg:=cfg) (f:=tF cfg C ops S E e) (l:=[]) hin;rw[if_neg (by omega)]at hh;exact hh
include hT hcall hA hdown hE hw
open Classical in
theorem HZ{Q:Exit->Act->World->Prop}{K:Act->World->Prop}(hK:∀D2 m2 a2 w2,DI cfg C ops S D0 m0 w0 (λj=>E j\/j=e) D2 m2 a2 w2->K a2 w2):wpOpIn (FR x) 0 P ops Q e K a w:=by
 obtain⟨op,hop,hstep⟩:=hR.step e he;have hdst:dI ops e=op.dst:=by simp[dI,hop]
 have ho:∀j,j<ops.size->∀t,t∈oi ops op->dI ops j=some t->j≠e->(E j↔j<e):=λj hj t ht hjt hne=>si hdown hE hw hne (.inl (hA.tmp e op hop t ht j hjt hne));have hod:∀d,dI ops e=some d->∀j,j<ops.size->dI ops j=some d->j≠e->(E j↔j<e):=λd hd j hj hjd hne=>ho j hj d (by rw[hdst]at hd;simp[oi,hd]) hjd hne;have hct:∀t,t∈oi ops op->Cg ops E t e:=λt ht j hj hjt=>by
  grind
 have hwanted:=ES (m:=m) (ts:=(S e).ts) (a:=a) (ops:=ops) (oo:=op) λt ht=>(h.tmp t e (by omega) (hct t (by simp[oi,ht]))).1;unfold wpOpIn;simp only[hop];rw[hwanted];rcases hstep with⟨hwt,r,hr,hp,hbnd⟩|⟨hwt,hp⟩
 . rw[hwt,if_pos rfl];obtain⟨htn,hro,hdd⟩:=gW hp;have hd:∀d,dI ops e=some d->d<(S 0).tn:=λd hd=>by rw[<-hR.tn e (by omega)];exact hdd d (by rw[<-hdst];exact hd)
   have hg:∀d,dI ops e=some d->(S (e+1)).ts.get d=r.1:=λd hd=>by rw[sf hp,if_pos (by rw[<-hdst];exact hd)]
   have hfoot:dc cfg ops S e=cW cfg (e9 cfg.G (S e).ts) op.op:=by simp only[dc,hop,hwt,cond_true]
   let ρ:Operand->Option AV:=λx=>if x∈op.op.operands.toList then e9 cfg.G (S e).ts x else none
   have hρe:∀x∈op.op.operands.toList,e9 cfg.G (S e).ts x=ρ x:=λx hx=>(if_pos hx).symm;have hρ:lJ (yP C S D e) m ρ a.eval:=by
    intro x v hx;have hxo:x∈op.op.operands.toList:=Classical.byContradiction λhn=>by simp only[ρ,if_neg hn]at hx;cases hx
    simp only[ρ,if_pos hxo]at hx;have h0:=hR.mono' hc (k:=0) (k':=e) (by omega) (by omega);cases x with
    | tmp t=>
      cases hx;exact h.tmp t e (by omega) (hct t (by simp only[oi,List.mem_append,List.mem_filterMap];exact .inr ⟨_,hxo,rfl⟩))
    | const c=>obtain⟨h1,h2⟩:=sD (m:=m) hx;exact⟨h1.symm,bQ h2⟩
    | global g=>
      simp only[e9,aA,Option.some.injEq,aS]at hx;obtain⟨hgl,rfl⟩:=hx;obtain⟨a1,a2,a3⟩:=h.glob g hgl;refine⟨by simp[Act.eval,aj,a2,a3],λi hi=>?_⟩;simp only[aD,List.mem_singleton]at hi;subst hi;have:=hR.g0 g hgl;exact⟨⟨a1,by omega⟩,Nat.zero_le _⟩
    | func f=>cases hx;exact⟨by simp[Act.eval,aj,ap],λi hi=>by simp[aD,bz]at hi⟩
   rw[Dk hρe]at hr;rw[C9 hρe]at hfoot;have hbarall:∀j i,j<ops.size->Wr cfg ops S j i->j≠e->ox (b8 op.op)=false->mB (b8 op.op)=false->(E j↔j<e):=by
    intro j i hj hwr hne hnf hnl;have:∃ids,dc cfg ops S j=.bar ids:=by
     have:=hwr.1;cases hf:dc cfg ops S j with
     | bar ids=>exact⟨ids,rfl⟩
     | none=>rw[hf]at this;cases this
     | reads id=>rw[hf]at this;cases this
    obtain⟨ids,hids⟩:=this;rcases hA.bar j ids hj hids e op hop hne with h1|h1|⟨h1,_⟩
    . grind
    . exact si hdown hE hw hne (.inl h1)
    . grind
   have hself:∀i,jq cfg ops S E i e\/True:=λ_=>.inr trivial;by_cases hq:tx (b8 op.op)=true
   ·
    have hfe:cI (dc cfg ops S e)=[]:=by rw[hfoot];exact Ds hq
    have hnw:∀i,¬Wr cfg ops S e i:=λi hwr=>by have:=hwr.1;rw[hfe]at this;cases this
    have hi:=No hR h he hc;have hsame:=Dr (C':=qR cfg (tF cfg C ops S E e) (C.lo+(S e).o.n)) (o':=qJ) (call':=call) hq hr (by simp[qR,qJ]) λhrd x hx v id hxv hn=>by
     have hb:id<C.lo+(S e).o.n:=(zV (hρ x v hxv).2 hn).2;have hcb:jq cfg ops S E id e:=λj hj hwr=>by
      by_cases hne:j=e
      . grind
      . by_cases hld:mB (b8 op.op)=true
        . obtain⟨rid,hrid,hrall⟩:=H0 (cfg:=cfg) hld hr;have hide:=hrall x hx v id hxv hn;have hf':dc cfg ops S e=.reads rid:=by rw[hfoot];exact hrid
          have:∃ids,dc cfg ops S j=.bar ids:=by
           have:=hwr.1;cases hf:dc cfg ops S j with
           | bar ids=>exact⟨ids,rfl⟩
           | none=>rw[hf]at this;cases this
           | reads id=>rw[hf]at this;cases this
          obtain⟨ids,hids⟩:=this;rcases hA.bar j ids hj hids e op hop hne with h1|h1|⟨_,h1⟩
          . rw[Hh h1]at hrid;cases hrid
          . exact si hdown hE hw hne (.inl h1)
          . have:=h1 rid hf';have h2:=hwr.1;rw[hids,hide]at h2;exact absurd h2 this
        . refine hbarall j id hj hwr hne ?_ (by simpa using hld);cases hkk:b8 op.op<;>rw[hkk]at hrd<;>first|rfl|cases hrd
     refine(Dl (l:=[]) hR h he hc hb).trans ?_;unfold tF;rw[if_pos hcb]
    obtain⟨l,hl,hr'⟩:=hsame;have hon:(S (e+1)).o=iC l (S e).o:=by rw[hro,hl]
    refine r_ (r:=(r.1,iC l qJ)) hT hi hρ hcall wi hr' λD' m' w' hv hx _=>?_;have hlt:∀i,D' i->i<C.lo+(S (e+1)).o.n:=λi hi'=>by
     have:=hx.inv.lt i hi';rw[hon];simp only[qR,iC,qJ]at this ⊢;omega
    have hnew:∀i,D' i->yP C S D e i\/C.lo+(S e).o.n<=i:=λi hi'=>by
     have:=hx.new i hi';simpa [qR,qJ]using this
    have hnown:∀i,yP C S D e i->(dW (qR cfg (tF cfg C ops S E e) (C.lo+(S e).o.n)) qJ i).isSome->False:=λi hi' hs=>by
     unfold dW at hs;simp only[qR]at hs;rw[jK (by have:=hi'.2;omega)]at hs;simp[qJ,fg]at hs
    have hgn:∀i,D' i->¬yP C S D e i->get (qR cfg (tF cfg C ops S E e) (C.lo+(S e).o.n)) (iC l qJ) i=get C (S (e+1)).o i:=λi hi' hn=>by
     rw[hon];refine DA (by simp[qR,qJ]) ((hnew i hi').resolve_left hn) ?_;have:=hlt i hi';rw[hon]at this;simp only[iC]at this;omega
    obtain⟨D2,m2,hcv,hdi⟩:=DI.mute hR hc h he hE hnw hod hd hx.sub hx.same hnew hlt hv hg hx.os hx.tape hx.output hx.size
     ⟨λk hk=>hx.frame k hk λi hi' hs=>(hnown i hi' hs).elim,λi hi' hn=>(hx.fresh i hi' hn).resolve_right λ⟨j,hj,hs,_⟩=>hnown j hj hs⟩
     (λi hi' hn=>by rw[<-hgn i hi' hn];exact hx.inv.obj i hi')
     (λi j hi' hj' hni hnj hij hl' hr''=>by rw[<-hgn i hi' hni]at hl';rw[<-hgn j hj' hnj]at hr'';exact hx.inv.inj i j hi' hj' hij hl' hr'')
    rw[hcv,hdst]at hdi;exact hK D2 m2 _ _ hdi
   . have hq':tx (b8 op.op)=false:=by simpa using hq
     have hnf:ox (b8 op.op)=false:=by cases hk:b8 op.op<;>rw[hk]at hq'<;>first|rfl|cases hq'
     have hnl:mB (b8 op.op)=false:=by cases hk:b8 op.op<;>rw[hk]at hq'<;>first|rfl|cases hq'
     have hall:∀i,jq cfg ops S E i e:=λi j hj hwr=>by
      grind
     have hi:=Py hR h he hc hall;cases hf:dc cfg ops S e with
     | bar ids=>
       have hbd:∀i,D i->i<C.lo+(S e).o.n:=λi hi'=>by
        rcases h.orig i hi' with h5|⟨e',he',hl',h6,h7⟩
        . have:=hR.mono' hc (k:=0) (k':=e) (by omega) (by omega);omega
        . rcases Nat.lt_trichotomy e' e with hlt|heq|hgt
          . have:=hR.mono' hc (k:=e'+1) (k':=e) (by omega) (by omega);omega
          . grind
          . obtain⟨op',hop',hst'⟩:=hR.step e' hl';have hkeep:(ox (b8 op'.op)\/mB (b8 op'.op)=true)->False:=λhk=>by
             have:(S (e'+1)).o=(S e').o:=by
              rcases hst' with⟨_,r',hr',hp',_⟩|⟨_,hp'⟩
              . rw[(gW hp').2.1,DO hk hr']
              . rw[(gW hp').2.1]
             rw[this]at h7;omega
            rcases hA.bar e ids he hf e' op' hop' (by omega)with h1|h1|⟨h1,_⟩
            . grind
            . have:=(si hdown hE hw (j:=e') (by omega) (.inr h1)).1 he';omega
            . grind
       have hBD:yP C S D e=D:=funext λi=>propext ⟨And.left,λhh=>⟨hh,hbd i hh⟩⟩;rw[hBD]at hi hρ;refine r_ hT hi hρ hcall wi hr λD' m' w' hv hx _=>?_;rw[<-hro]at hx;have:=DI.bar hR hc h he hE hod hd hbd (λj i hj hwr hne=>hbarall j i hj hwr hne hnf hnl) (λi hwr=>EE hρ (by have:=hwr.1;rw[hfoot]at this;exact this)) hv hg hx;rw[hdst]at this;exact hK D' m' _ _ this
     | none=>
       have hkc:b8 op.op=.call:=Classical.byContradiction λhk=>by
        obtain⟨ids,hids⟩:=B6 (cfg:=cfg) (ρ:=ρ) hq' hk;rw[hfoot,hids]at hf;cases hf
       have hfe:cI (cW cfg ρ op.op)=[]:=by rw[<-hfoot,hf];rfl
       have hnw:∀i,¬Wr cfg ops S e i:=λi hwr=>by have:=hwr.1;rw[hf]at this;cases this
       refine r_ hT hi hρ hcall wi hr λD' m' w' hv hx hmu=>?_;rw[<-hro]at hx;obtain⟨D2,m2,hcv,hdi⟩:=DI.mute hR hc h he hE hnw hod hd hx.sub hx.same hx.new hx.inv.lt hv hg hx.os hx.tape hx.output hx.size (hmu trivial hkc hfe)
        (λi hi' _=>hx.inv.obj i hi') (λi j hi' hj' _ _ hij hl' hr''=>hx.inv.inj i j hi' hj' hij hl' hr'')
       rw[hcv,hdst]at hdi;exact hK D2 m2 _ _ hdi
     | reads id=>
       have hkc:b8 op.op=.call:=Classical.byContradiction λhk=>by
        obtain⟨ids,hids⟩:=B6 (cfg:=cfg) (ρ:=ρ) hq' hk;rw[hfoot,hids]at hf;cases hf
       have hfe:cI (cW cfg ρ op.op)=[]:=by rw[<-hfoot,hf];rfl
       have hnw:∀i,¬Wr cfg ops S e i:=λi hwr=>by have:=hwr.1;rw[hf]at this;cases this
       refine r_ hT hi hρ hcall wi hr λD' m' w' hv hx hmu=>?_;rw[<-hro]at hx;obtain⟨D2,m2,hcv,hdi⟩:=DI.mute hR hc h he hE hnw hod hd hx.sub hx.same hx.new hx.inv.lt hv hg hx.os hx.tape hx.output hx.size (hmu trivial hkc hfe)
        (λi hi' _=>hx.inv.obj i hi') (λi j hi' hj' _ _ hij hl' hr''=>hx.inv.inj i j hi' hj' hij hl' hr'')
       rw[hcv,hdst]at hdi;exact hK D2 m2 _ _ hdi
 . rw[hwt,if_neg (by simp)];refine⟨λ_ _=>trivial,?_⟩;obtain⟨htn,hro,hdd⟩:=gW hp;have hd:∀d,dI ops e=some d->d<(S 0).tn:=λd hd=>by rw[<-hR.tn e (by omega)];exact hdd d (by rw[<-hdst];exact hd)
   have hg:∀d,dI ops e=some d->(S (e+1)).ts.get d=bo:=λd hd=>by rw[sf hp,if_pos (by rw[<-hdst];exact hd)]
   have hf:dc cfg ops S e=.none:=by simp only[dc,hop,hwt,cond_false]
   have hnw:∀i,¬Wr cfg ops S e i:=λi hwr=>by have:=hwr.1;rw[hf]at this;cases this
   obtain⟨D2,m2,hcv,hdi⟩:=DI.mute (D':=yP C S D e) (m':=m) (w':=w) (v:=bo) hR hc h he hE hnw hod hd (λ_ hi=>hi) (λ_ _=>rfl) (λ_ hi=>.inl hi) (λi hi=>by rw[hro];exact hi.2) ik hg rfl rfl rfl (Nat.le_refl _)
    ⟨λ_ _=>rfl,λi hi hn=>absurd hi hn⟩ (λi hi hn=>absurd hi hn) (λi j hi _ hn=>absurd hi hn)
   rw[hcv,hdst,iW]at hdi;exact hK D2 m2 _ _ hdi
end
theorem zy{p q:Nat->Bool}(h:∀i,q i->p i):∀l:List Nat,l.countP q<=l.countP p
 | []=>by simp
 | x::l=>by
   have:=zy h l;rw[List.countP_cons,List.countP_cons];cases hq:q x with
   | true=>rw[h x hq];simp;exact this
   | false=>simp only[Bool.false_eq_true,if_false];omega
theorem zl{p q:Nat->Bool}(h:∀i,q i->p i){e:Nat}(hp:p e)(hq:q e=false):∀{l:List Nat},e∈l->l.countP q<l.countP p
 | [],he=>by cases he
 | x::l,he=>by
   rw[List.countP_cons,List.countP_cons];rcases List.mem_cons.1 he with rfl|he
   . have:=zy h l;rw[hp,hq];simp;omega
   . have:=zl h hp hq he;cases hx:q x with
     | true=>rw[h x hx];simp;exact this
     | false=>simp only[Bool.false_eq_true,if_false];omega
def rP(listed:Array Bool)(j:Nat):Prop:=listed.getD j false=true
theorem pm(listed:Array Bool)(h:i<listed.size):listed.getD i true=listed.getD i false:=by simp[Array.getD,h]
theorem Fr{listed:Array Bool}(h:i<listed.size)(j:Nat):rP (listed.setIfInBounds i true) j↔rP listed j\/j=i:=by
 unfold rP;by_cases e:j=i
 . simp_all
 . simp only[e,or_false,Array.getD,Array.size_setIfInBounds];split
   . rw[Array.getInternal_eq_getElem,Array.getInternal_eq_getElem,Array.getElem_setIfInBounds_ne (h:=λe'=>e e'.symm)]
   . rfl
theorem tz{listed:Array Bool}(hs:listed.size=ops.size):i∈Region.ready .any ops listed↔i<ops.size/\¬rP listed i/\kX ops (rP listed) i:=by
 unfold Region.ready;rw[List.mem_filter,List.mem_range];constructor
 . rintro⟨hi,h⟩;rw[pm listed (by omega)]at h;have hop:ops[i]? = some ops[i]:=by simp[hi]
   simp only[hop,Option.map_some,Option.getD_some,Bool.and_eq_true,Bool.not_eq_true']at h;refine⟨hi,by unfold rP;simp[h.1],λo ho e he hb=>?_⟩;rw[hop]at ho;cases ho;have:=h.2;rw[<-Array.all_toList,List.all_eq_true]at this;have:=this e he;simpa [hb,rP]using this
 . rintro⟨hi,h1,h2⟩;refine⟨hi,?_⟩;have hop:ops[i]? = some ops[i]:=by simp[hi]
   rw[pm listed (by omega)];simp only[hop,Option.map_some,Option.getD_some,Bool.and_eq_true,Bool.not_eq_true'];refine⟨by unfold rP at h1;simpa using h1,?_⟩;rw[<-Array.all_toList,List.all_eq_true];intro e he;cases hb:Region.binds .any e with
   | false=>simp
   | true=>have:=h2 _ hop e he hb;simpa [rP]using this
section
variable{P:Program}{T:fb}(hT:fF P T){cfg:cG}{call:bg->FuncId->List AV->aC->Option (AV×aC)}(hcall:jF P cfg True call)(hc:b9 cfg call){C:bg}{ops:Array Oper}{S:Nat->St}(hR:ns T cfg call C ops S)(hA:AJ cfg ops S)
 {D0:Nat->Prop} {m0:Nat->bq} {w0:World}
include hT hcall hc hR hA
theorem RO{Q:Exit->Act->World->Prop}(hq:∀D m a w,DI cfg C ops S D0 m0 w0 (λj=>j<ops.size) D m a w->Q .normal a w):∀(fuel:Nat) (listed:Array Bool),listed.size=ops.size->((List.range ops.size).countP λi=>!listed.getD i true)<=fuel->
 (∀j,rP listed j->kX ops (rP listed) j)->∀{D:Nat->Prop} {m:Nat->bq} {a:Act} {w:World},DI cfg C ops S D0 m0 w0 (rP listed) D m a w->wpAnyIn (FR x) 0 P .any ops Q fuel listed a w:=by
 have fin:∀(listed:Array Bool),listed.size=ops.size->Region.ready .any ops listed=[]->∀{D:Nat->Prop} {m:Nat->bq} {a:Act} {w:World},DI cfg C ops S D0 m0 w0 (rP listed) D m a w->Q .normal a w:=by
  intro listed hs hr D m a w h;have hall:∀j,j<ops.size->rP listed j:=by
   intro j;induction j using Nat.strongRecOn with
   | ind j ih=>
     intro hj;refine Classical.byContradiction λhn=>?_;have:j∈Region.ready .any ops listed:=(tz hs).2 ⟨hj,hn,λo ho e he hb=>by
      have:=hA.edge j o ho e he hb;exact ih e.on this (by omega)⟩
     rw[hr]at this;cases this
  have heq:rP listed=λj=>j<ops.size:=funext λj=>propext ⟨λhh=>(by
   refine Classical.byContradiction λhn=>?_;unfold rP at hh;simp only[Array.getD]at hh;rw[dif_neg (by omega)]at hh;cases hh),hall j⟩
  rw[heq]at h;exact hq D m a w h
 intro fuel;induction fuel with
 | zero=>
   intro listed hs hcnt hd D m a w h;have hr:Region.ready .any ops listed=[]:=by
    rw[List.eq_nil_iff_forall_not_mem];intro i hi;obtain⟨h1,h2,_⟩:=(tz hs).1 hi;have:0<(List.range ops.size).countP λi=>!listed.getD i true:=List.countP_pos_iff.2 ⟨i,List.mem_range.2 h1,by rw[pm listed (by omega)];unfold rP at h2;simpa using h2⟩;omega
   exact⟨hr,fin listed hs hr h⟩
 | succ fuel ih=>
   intro listed hs hcnt hd D m a w h;refine⟨λhr=>fin listed hs hr h,λi hi=>?_⟩;obtain⟨h1,h2,h3⟩:=(tz hs).1 hi;have hset:rP (listed.setIfInBounds i true)=λj=>rP listed j\/j=i:=funext λj=>propext (Fr (by omega) j);refine HZ hT hcall hc hR hA h hd h1 h2 h3 λD2 m2 a2 w2 h'=>?_;refine ih (listed.setIfInBounds i true) (by simp[hs]) ?_ ?_ (by rw[hset];exact h')
   . have hlt:(List.range ops.size).countP (λj=>!(listed.setIfInBounds i true).getD j true)<(List.range ops.size).countP (λj=>!listed.getD j true):=by
      refine zl (e:=i) (λj hj=>?_) ?_ ?_ (List.mem_range.2 h1)
      . by_cases hjs:j<listed.size
        . rw[pm _ (by simpa using hjs)]at hj;rw[pm _ hjs];have:¬rP (listed.setIfInBounds i true) j:=by unfold rP;simpa using hj
          rw[Fr (by omega)]at this;have:¬rP listed j:=λhh=>this (.inl hh);unfold rP at this;simpa using this
        . grind
      . rw[pm _ (by omega)];unfold rP at h2;simpa using h2
      . simp_all
     omega
   . intro j hj o ho e he hb;rw[hset]at hj ⊢;rcases hj with hj|rfl
     . exact .inl (hd j hj o ho e he hb)
     . exact .inl (h3 o ho e he hb)
end
section
variable{P:Program}{T:fb}(hT:fF P T)(hm:P.follows .mixedOrders){cfg:cG}{C:bg}{call:bg->FuncId->List AV->aC->Option (AV×aC)}(hcall:jF P cfg True call)(hc:b9 cfg call)
include hT hm hcall hc
theorem NH{rnd:bg->Nat->List AV->aC->Option (AV×aC)}{callI:bg->FuncId->List AV->aC->Option (AV×aC)}{Q:Exit->Act->World->Prop}{D:Nat->Prop}{m:Nat->bq}{a:Act}{w:World}(hi:dV cfg D m C st.o w)(ht:TR D m st a)(h:j8 T cfg call rnd C callI ops true st=some st')
 (hq:∀D' m' a' w',TR D' m' st' a'->dk cfg C D m st.o w D' m' st'.o w'->Q .normal a' w'):(Code.region id ops true).wpIn (FR x) 0 P Q a w:=by
 simp only[j8,cond_true,ai,aA,Option.some.injEq]at h;obtain⟨acc,hs,r,hd,hap,rfl⟩:=h;obtain⟨S,h0,hn,hst,_⟩:=zj (by simp) hd;rw[Nat.zero_add]at hn;have hlen:ops.toList.length=ops.size:=by simp
 rw[hlen]at hn;have hst':∀k,k<ops.size->zB T cfg call C ops S k/\(k,dc cfg ops S k)∈r.2:=λk hk=>hst k (Nat.zero_le _) (by rw[hlen];omega);have hR:ns T cfg call C ops S:=⟨λk hk=>(hst' k hk).1,by rw[h0];exact hi.len,by rw[h0];exact hi.le,hi.lo,λg hg=>by rw[h0];exact hi.lt g (hi.glob g hg).1⟩;have hA:AJ cfg ops S:=G3 hs (λk hk=>(hst' k hk).2) hap;refine wpIn_region_any hm (RO hT hcall hc hR hA (D0:=D) (m0:=m) (w0:=w) (λD' m' a' w' hdi=>?_) ops.size _ (by simp) ?_ ?_ (D:=D) (m:=m) ?_)
 . have hbd:∀i,D' i->i<C.lo+(S ops.size).o.n:=λi hi'=>by
    rcases hdi.orig i hi' with h5|⟨e,_,he,_,h7⟩
    . have:=hR.mono' hc (k:=0) (k':=ops.size) (by omega) (by omega);omega
    . have:=hR.mono' hc (k:=e+1) (k':=ops.size) (by omega) (by omega);omega
   have hall:∀i,jq cfg ops S (λj=>j<ops.size) i ops.size:=λi j hj _=>⟨λ_=>hj,λ_=>hj⟩;have hallt:∀t,Cg ops (λj=>j<ops.size) t ops.size:=λi j hj _=>⟨λ_=>hj,λ_=>hj⟩;have htr:TR D' m' (S ops.size) a':=⟨by rw[hdi.sz,hR.tn _ (Nat.le_refl _)],λt=>(hdi.tmp t _ (Nat.le_refl _) (hallt t)).1,λt=>(hdi.tmp t _ (Nat.le_refl _) (hallt t)).2.mono (λi hi'=>hi'.1) λ_ _=>rfl,by rw[hdi.defers,(hR.ds _ (Nat.le_refl _)).1,iB (D:=D) (by rw[h0];exact ht.dsD) hdi.mv.same],λd hd=>hdi.mv.sub d (by rw[(hR.ds _ (Nat.le_refl _)).1,h0]at hd;exact ht.dsD d hd),λi hi'=>hdi.mv.sub i (by rw[(hR.ds _ (Nat.le_refl _)).2,h0]at hi';exact ht.roD i hi')⟩;have hinv:dV cfg D' m' C (S ops.size).o w':=by
    refine⟨λi hi'=>(hdi.obj i _ (Nat.le_refl _) hi' (hbd i hi') (hall i)).mono (λj hj=>hj.1) λ_ _=>rfl,λi j hi' hj' hij hl hr=>hdi.inj i j _ (Nat.le_refl _) hi' hj' (hbd i hi') (hbd j hj') (hall i) (hall j) hij hl hr,hbd,hdi.glob,λi hi'=>?_,λi hi'=>?_,hR.lo,hR.len hc _ (Nat.le_refl _)⟩
    . exact⟨(hdi.root i hi').1,by rw[hR.root hc _ (Nat.le_refl _) hi'];exact(hdi.root i hi').2⟩
    . rw[hR.le hc _ (Nat.le_refl _)]at hi';exact hR.le0 i hi'
   rw[hn]at htr hinv;have hmv:=hdi.mv;rw[h0]at hmv;have hgrow:=hR.mono' hc (k:=0) (k':=ops.size) (by omega) (by omega);have hle:=hR.le hc ops.size (Nat.le_refl _);rw[h0,hn]at hgrow hle;exact hq D' m' a' w' htr ⟨hinv,hmv.sub,hmv.same,hmv.new,hgrow,hmv.os,hmv.tape,hmv.output,hmv.size,hmv.frame,hle,hmv.fresh⟩
 . refine Nat.le_trans List.countP_le_length (by simp)
 . intro j hj;unfold rP at hj;simp only[Array.getD]at hj;split at hj
   . simp at hj
   . cases hj
 . have hno:∀j,¬rP (Array.replicate ops.size false) j:=λj hj=>by
    unfold rP at hj;simp only[Array.getD]at hj;split at hj
    . simp at hj
    . cases hj
   have cT:∀t k,k<=ops.size->Cg ops (rP (Array.replicate ops.size false)) t k->(S k).ts.get t=st.ts.get t:=λt k hk hct=>by
    rw[<-h0];exact hR.ts' (by omega) hk λj _ hj hjt=>hno j ((hct j (by omega) hjt).2 hj)
   have cB:∀i k,k<=ops.size->D i->jq cfg ops S (rP (Array.replicate ops.size false)) i k->get C (S k).o i=get C st.o i:=λi k hk hdi hcb=>by
    have:=hi.lt i hdi;have:=hR.same' hc (k:=0) (k':=k) (i:=i) (by omega) hk (by rw[h0];exact this) λj _ hj hw=>hno j ((hcb j (by omega) hw).2 hj);rw[this,h0]
   have bel:∀k,k<=ops.size->∀i,D i->yP C S D k i:=λk hk i hdi=>⟨hdi,by
    have:=hi.lt i hdi;have h1:=hR.mono' hc (k:=0) (k':=k) (by omega) hk;rw[h0]at h1;omega⟩
   refine{ sz:=by rw[h0];exact ht.size,defers:=by rw[h0];exact ht.defers,tmp:=λt k hk hct=>?_,obj:=λi k hk hdi _ hcb=>?_,inj:=λi j k hk hdi hdj _ _ hci hcj hij hl hr=>?_,orig:=λi hdi=>.inl (by rw[h0];exact hi.lt i hdi),wr:=λj i hj=>absurd hj (hno j),glob:=hi.glob,root:=λi hid=>by rw[h0];exact hi.root i hid,mv:=?_ }
   . rw[cT t k hk hct];exact⟨ht.at' t,(ht.okt t).mono (bel k hk) λ_ _=>rfl⟩
   . rw[cB i k hk hdi hcb];exact(hi.obj i hdi).mono (bel k hk) λ_ _=>rfl
   . rw[cB i k hk hdi hci]at hl;rw[cB j k hk hdj hcj]at hr;exact hi.inj i j hdi hdj hij hl hr
   . exact⟨λ_ hh=>hh,λ_ _=>rfl,λ_ hh=>.inl hh,rfl,rfl,rfl,Nat.le_refl _,λ_ _ _=>rfl,λi hh hn=>absurd hh hn⟩
theorem H8{rnd:bg->Nat->List AV->aC->Option (AV×aC)}{callI:bg->FuncId->List AV->aC->Option (AV×aC)}(hcI:jF P cfg False callI)(hrI:CO P cfg False rnd){Q:Exit->Act->World->Prop}{D:Nat->Prop}{m:Nat->bq}{a:Act}{w:World}(hi:dV cfg D m C st.o w)(ht:TR D m st a)(h:j8 T cfg call rnd C callI ops draw st=some st')
 (hq:∀D' m' a' w',TR D' m' st' a'->dk cfg C D m st.o w D' m' st'.o w'->Q .normal a' w'):(Code.region id ops draw).wpIn (FR x) 0 P Q a w:=by
 cases draw with
 | true=>exact NH hT hm hcall hc hi ht h hq
 | false=>
   simp only[j8,cond_false]at h;refine wpIn_region ?_;have:=Ej hT hcI hrI (Q:=Q) (x:=x) ops.toList 0 (by simp) hi ht h hq;simpa [List.range_eq_range']using this
end
def grown(o1 o:aC):aC:=⟨o1.n+o.n,o1.os++o.os,o.le⟩
theorem sO(hl:o1.os.length=o1.n)(hi:i<C.lo+o.n):get C (grown o1 o) i=get C o i:=by
 rw[get,gy,get,gy];by_cases hb:C.lo<=i
 . rw[bv.2 hb,cond_true,cond_true];unfold grown aC.at;simp only[List.getD_eq_getElem?_getD];rw[List.getElem?_append_right (by omega),show o1.n+o.n-1-(i-C.lo)-o1.os.length=o.n-1-(i-C.lo)by omega]
 . rw[jK hb];rfl
theorem zJ(hl:o1.os.length=o1.n)(h1:C.lo+o.n<=i)(h2:i<C.lo+o.n+o1.n):get C (grown o1 o) i=o1.at (i-(C.lo+o.n)):=by
 rw[get,gy,bv.2 (by omega:C.lo<=i),cond_true];unfold grown aC.at;simp only[List.getD_eq_getElem?_getD];rw[List.getElem?_append_left (by omega),show o1.n+o.n-1-(i-C.lo)=o1.n-1-(i-(C.lo+o.n))by omega]
theorem e8.grown{ids:List Nat}(hl:o.os.length=o.n)(hl1:o1.os.length=o1.n):e8 C o (grown o1 o) ids:=
 ⟨by simp[Ev.grown],rfl,by simp[Ev.grown,hl,hl1],λ_ i hi _=>sO hl1 hi⟩
theorem wx{C:bg}{ids:List Nat}:∀{l:List (Nat×aE)} {o:aC},o.os.length=o.n->(∀p∈l,p.1∈ids)->e8 C o (p4 C o l) ids
 | [],o,hl,_=>.refl hl
 | p::l,o,hl,h=>by
   rw[p4];exact(e8.put hl (h p List.mem_cons_self)).trans (wx (mY hl) λq hq=>h q (List.mem_cons_of_mem _ hq))
theorem jh{C:bg}{o:aC}:∀{ids:List Nat} {p:Nat×aE},p∈gC C o ids->p.1∈ids/\dW C o p.1=some p.2
 | [],p,h=>by cases h
 | id::ids,p,h=>by
   rw[gC]at h;have rec':p∈gC C o ids->p.1∈id::ids/\dW C o p.1=some p.2:=λh=>⟨List.mem_cons_of_mem _ (jh h).1,(jh h).2⟩;cases hm:t_ id ids with
   | true=>rw[hm,cond_true]at h;exact rec' h
   | false=>
     grind
theorem kQ{C:bg}{o:aC}:∀{ids:List Nat},((gC C o ids).map (·.1)).Nodup
 | []=>by simp[gC]
 | id::ids=>by
   rw[gC];cases hm:t_ id ids with
   | true=>rw[cond_true];exact kQ
   | false=>
     rw[cond_false];cases hx:dW C o id with
     | none=>exact kQ
     | some x=>
       simp only[List.map_cons,List.nodup_cons];refine⟨λhin=>?_,kQ⟩;obtain⟨p,hp,e⟩:=List.mem_map.1 hin;have:=(jh hp).1;rw[e]at this;rw[s8.2 this]at hm;cases hm
def LL(o o':aC):Prop:=o.os.length=o.n->o'.os.length=o'.n/\o'.le.map (·.1)=o.le.map (·.1)
theorem LL.refl(o:aC):LL o o:=λh=>⟨h,rfl⟩
theorem LL.trans{o2:aC}(h:LL o o1)(k:LL o1 o2):LL o o2:=λhl=>⟨(k (h hl).1).1,(k (h hl).1).2.trans (h hl).2⟩
theorem LL.put{x:aE}:LL o (eF C o id x):=λh=>⟨mY h,qp⟩
theorem LL.push{x:aE}:LL o (o.push x):=λh=>⟨by simp[aC.push,h],rfl⟩
theorem LL.foot{o':aC}{ids:List Nat}(h:o.os.length=o.n->e8 C o o' ids):LL o o':=λhl=>⟨(h hl).len,(h hl).le⟩
def nj(code:bg->Code->St->Option (AX×St)):Prop:=∀C c st r,code C c st=some r->LL st.o r.2.o/\r.2.ro=st.ro
def Bh(call:bg->FuncId->List AV->aC->Option (AV×aC)):Prop:=∀C f args o r,call C f args o=some r->LL o r.2
def F2(rnd:bg->Nat->List AV->aC->Option (AV×aC)):Prop:=∀C id args o r,rnd C id args o=some r->LL o r.2
theorem Ab{C:bg}:∀{ds:List Nat} {o o':aC},qi C o ds=some o'->LL o o'
 | [],o,o',h=>by cases h;exact .refl o
 | d::ds,o,o',h=>by
   unfold qi at h;split at h
   . exact LL.put.trans (Ab h)
   . cases h
section
variable{T:fb}{cfg:cG}{code:bg->Code->St->Option (AX×St)}
theorem tT(h:lq T code C fn c args o0=some r) :
 args.length<=1000/\∃x o vs,code C c (jH fn args o0)=some x/\(∀id,x.1≠.exit id)/\qi C x.2.o x.2.ds=some o/\Cz T C ⟨x.2.ts,x.2.tn,o,[],none⟩ fn.results.toList=some vs/\r=(wZ vs,o):=by
 simp only[lq,aA,ai,bv]at h;obtain⟨h1,x,hx,h⟩:=h;refine⟨h1,?_⟩;unfold vJ at h;split at h
 . cases h
 . rename_i hne;simp only[ai,Option.some.injEq]at h;obtain⟨o,ho,vs,hvs,rfl⟩:=h;exact⟨x,o,vs,hx,λid e=>hne id e,ho,hvs,rfl⟩
theorem py(hll:nj code)(h:lq T code C fn c args o0=some r):LL o0 r.2:=by
 obtain⟨_,x,o,vs,hx,_,hm,_,rfl⟩:=tT h;exact(hll _ _ _ _ hx).1.trans (Ab hm)
theorem xx(hll:nj code){ids:List Nat}(h:zD T code C fn c args o (gC C o ids)=some r)(hl:o.os.length=o.n):e8 C o r.2 ids:=by
 simp only[zD,ai,Option.some.injEq]at h;obtain⟨r1,he,rfl⟩:=h;obtain⟨h1,h2⟩:=py hll he rfl;have hg:e8 C o (grown r1.2 o) ids:=.grown hl h1;unfold A9;split
 . cases hJ (C.lo+o.n) 20 r1.1 with
   | true=>exact .refl hl
   | false=>exact hg
 . refine hg.trans (wx hg.len λp hp=>?_);have:p.1∈(gC C o ids).map (·.1):=by
    grind
   obtain⟨q,hq,e⟩:=List.mem_map.1 this;rw[<-e];exact(jh hq).1
theorem xl(horc:b9 cfg λC f args o=>cfg.orc f C args o)(hll:nj code):b9 cfg (kN T cfg false code):=by
 intro C f args o r h hl;unfold kN at h;cases ho:cfg.orc f C args o with
 | some r'=>
   rw[ho]at h;cases h;exact horc C f args o r ho hl
 | none=>
   rw[ho]at h;simp only[BV,ai]at h;obtain⟨fc,_,h⟩:=h;cases hb:(cfg.canon f&&bw cfg.root.n args)with
   | true=>
     simp only[hb,cond_true,ai,Option.some.injEq]at h;obtain⟨v,_,rfl⟩:=h;exact .refl hl
   | false=>
     simp only[hb,cond_false,CZ,Bool.false_and]at h;exact xx hll h hl
theorem LD{inl:Bool}(horc:b9 cfg λC f args o=>cfg.orc f C args o)(hll:nj code):Bh (kN T cfg inl code):=by
 intro C f args o r h;unfold kN at h;cases ho:cfg.orc f C args o with
 | some r'=>
   rw[ho]at h;cases h;exact .foot λhl=>horc C f args o r ho hl
 | none=>
   rw[ho]at h;simp only[BV,ai]at h;obtain⟨fc,_,h⟩:=h;cases hb:(cfg.canon f&&bw cfg.root.n args)with
   | true=>
     simp only[hb,cond_true,ai,Option.some.injEq]at h;obtain⟨v,_,rfl⟩:=h;exact .refl _
   | false=>
     simp only[hb,cond_false,CZ]at h;cases hy:(inl&&Cx args)with
     | true=>rw[hy,cond_true]at h;exact py hll h
     | false=>rw[hy,cond_false]at h;exact .foot λhl=>xx hll h hl
theorem Iv(cf:cG){call:bg->FuncId->List AV->aC->Option (AV×aC)}(hc:Bh call){rnd:bg->Nat->List AV->aC->Option (AV×aC)}(hr:F2 rnd){ρ:Operand->Option AV}(h:gM T call rnd C ρ o op=some r):LL o r.2:=by
 have other:gM T (λ_ _ _ _=>none) sY C ρ o op=some r->LL o r.2:=λh'=>.foot λhl=>qx (cfg:=cf) (λC f args o r h=>by cases h) h' hl;cases op with
 | call c=>
   unfold gM rq at h;unfold gM rq at other;cases hcal:c.callee with
   | value f=>
     simp only[hcal,ai]at h;obtain⟨fv,hf,vs,hvs,h⟩:=h;cases fv<;>simp only[GE,reduceCtorEq]at h
     . exact hc _ _ _ _ _ h
     . exact hr _ _ _ _ _ h
   | builtin b=>simp only[hcal]at h other;exact other h
   | invoke x n=>simp only[hcal]at h other;exact other h
 | _=>exact other h
theorem BH{call:bg->FuncId->List AV->aC->Option (AV×aC)}(hc:Bh call){rnd:bg->Nat->List AV->aC->Option (AV×aC)}(hr:F2 rnd){C:bg}{ops:Array Oper}:∀{l:List Oper} {st st':St},BZ T cfg call rnd C ops l st=some st'->LL st.o st'.o/\st'.ro=st.ro
 | [],st,st',h=>by cases h;exact⟨.refl _,rfl⟩
 | oo::rest,st,st',h=>by
   simp only[BZ,ai]at h;obtain⟨st1,hs,h⟩:=h;cases hw:eE ops st.ts oo.guard with
   | true=>
     simp only[hw,cond_true,ai]at hs;obtain⟨r,hr',hp⟩:=hs;have hf:=Iv cfg hc hr hr';rw[<-(gW hp).2.1]at hf;obtain⟨a,b⟩:=BH hc hr h;exact⟨hf.trans a,b.trans (pg hp).2⟩
   | false=>
     simp only[hw,cond_false]at hs;have e:=(gW hs).2.1;obtain⟨a,b⟩:=BH hc hr h;rw[e]at a;exact⟨a,b.trans (pg hs).2⟩
theorem yv{call:bg->FuncId->List AV->aC->Option (AV×aC)}(hc:b9 cfg call){C:bg}{ops:Array Oper}:∀{l:List Oper} {i:Nat} {st:St} {log:List (Nat×gk)} {r:St×List (Nat×gk)},p6 T cfg call C ops i l st log=some r->LL st.o r.1.o/\r.1.ro=st.ro
 | [],i,st,log,r,h=>by cases h;exact⟨.refl _,rfl⟩
 | oo::rest,i,st,log,r,h=>by
   unfold p6 at h;cases hw:eE ops st.ts oo.guard with
   | true=>
     simp only[hw,cond_true,ai,aA]at h;obtain⟨q,hr,st1,hp,_,h⟩:=h;have hf:LL st.o q.2:=.foot λhl=>qx hc hr hl;rw[<-(gW hp).2.1]at hf;obtain⟨a,b⟩:=yv hc h;exact⟨hf.trans a,b.trans (pg hp).2⟩
   | false=>
     simp only[hw,cond_false,ai]at h;obtain⟨st1,hs,h⟩:=h;have e:=(gW hs).2.1;obtain⟨a,b⟩:=yv hc h;rw[e]at a;exact⟨a,b.trans (pg hs).2⟩
theorem EI{call callI:bg->FuncId->List AV->aC->Option (AV×aC)}(hc:b9 cfg call)(hcI:Bh callI){rnd:bg->Nat->List AV->aC->Option (AV×aC)}(hr:F2 rnd)(h:j8 T cfg call rnd C callI ops draw st=some st'):LL st.o st'.o/\st'.ro=st.ro:=by
 cases draw with
 | true=>
   simp only[j8,cond_true,ai,aA,Option.some.injEq]at h;obtain⟨acc,hs,r,hd,hap,rfl⟩:=h;exact yv hc hd
 | false=>exact BH hcI hr h
theorem ie{r:zZ}(h:qb C o id=some r):dW C o id=some (.loop r):=by
 unfold qb at h;split at h
 . grind
 . cases h
theorem Hp(hll:nj code):F2 (qa code):=by
 intro C id args o r h;simp only[qa,ai]at h;obtain⟨q,_,ts,_,x,hx,h⟩:=h;simp only[nZ,aA,ai]at h;obtain⟨_,q1,_,_,x2,hx2,h⟩:=h;simp only[tu,ai,Option.some.injEq]at h;obtain⟨q2,_,rfl⟩:=h;exact(((hll _ _ _ _ hx).1.trans LL.put).trans (hll _ _ _ _ hx2).1).trans LL.put
theorem Fs{f:St->Option (AX×St)}{x r:AX×St}(h:tM f x=some r)(hx:LL st.o x.2.o/\x.2.ro=st.ro)(hf:∀st r,f st=some r->LL st.o r.2.o/\r.2.ro=st.ro) :
 LL st.o r.2.o/\r.2.ro=st.ro:=by
 unfold tM at h;split at h
 . obtain⟨a,b⟩:=hf _ _ h;exact⟨hx.1.trans a,b.trans hx.2⟩
 . grind
theorem pC(horc:b9 cfg λC f args o=>cfg.orc f C args o):∀n,nj (eT T cfg n)
 | 0,C,c,st,r,h=>by cases h
 | n+1,C,c,st,r,h=>by
   have ih:=pC horc n;unfold eT at h;cases c<;>simp only[fJ]at h
   case skip=>cases h;exact⟨.refl _,rfl⟩
   case label=>cases h;exact⟨.refl _,rfl⟩
   case seq a b=>
    simp only[Mg,ai]at h;obtain⟨x,hx,h⟩:=h;exact Fs h (ih _ _ _ _ hx) λst r=>ih _ _ st r
   case cond c a b=>
    simp only[E3,ai]at h;obtain⟨v,hv,h⟩:=h;unfold LI at h;split at h
    . exact ih _ _ _ _ h
    . exact ih _ _ _ _ h
    . cases h
   case block id b=>
    simp only[AI,ai,Option.some.injEq]at h;obtain⟨x,hx,rfl⟩:=h;have:=ih _ _ _ _ hx;unfold lx;split
    . grind
    . exact this
   case loop b=>
    simp only[Fv,ai]at h;obtain⟨x,hx,h⟩:=h;exact Fs h (ih _ _ _ _ hx) λst r=>ih _ _ st r
   case scope b=>exact ih _ _ _ _ h
   case exit=>cases h;exact⟨.refl _,rfl⟩
   case ret=>cases h;exact⟨.refl _,rfl⟩
   case region id ops draw=>
    simp only[ry,ai,Option.some.injEq]at h;obtain⟨st',hs,rfl⟩:=h;exact EI (xl horc ih) (LD horc ih) (Hp ih) hs
   case rangeFunc g ps assign body=>
    simp only[A0,ai]at h;obtain⟨gv,_,e,he,x,hx,h⟩:=h;simp only[wF,ai,aA,Option.some.injEq]at h;obtain⟨q,_,_,ax,_,rfl⟩:=h;have h1:LL st.o e.2.1:=by
     unfold ph at he;split at he
     . cases he;exact LL.push
     . simp only[ai,Option.some.injEq]at he;obtain⟨_,_,rfl⟩:=he;exact .refl _
    have h2:LL (e.2.1.push (.loop ⟨.ready,none,st.ts,st.tn,ps,assign,body,e.1⟩)) x.2:=by
     cases gv<;>simp only[wS,reduceCtorEq]at hx;rw[ai]at hx;obtain⟨fc,_,hx⟩:=hx;exact py ih hx
    exact⟨((h1.trans LL.push).trans h2).trans LL.put,rfl⟩
   all_goals cases h
end
end Go.Ev
