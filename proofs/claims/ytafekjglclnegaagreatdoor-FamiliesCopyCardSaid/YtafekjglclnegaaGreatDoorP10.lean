import Derived.OrdersIn
import Derived.LoopNIn
import Derived.Test.YtafekjglclnegaaGreatDoorP09
set_option linter.all false
namespace Go.Ev
open Go Go.RowKit
theorem Ab{m:Nat->bo}{ts:Ts}{a:Act}{ops:Array Oper}{oo:Oper}(h:∀t,zY ops oo.guard=some t->a.tmps.getD t undef=aj m (ts.get t)):Region.wanted oo (yielded ops a.tmps)=dV ops ts oo.guard:=by
 unfold Region.wanted dV
 cases hgd:oo.guard with
 | none=>rfl
 | some jw=>
   obtain⟨j,want⟩:=jw
   simp only[yielded]
   cases hj:ops[j]? with
   | none=>simp
   | some op=>
     cases hd:op.dst with
     | none=>simp[hd,ov]
     | some t=>
       have hat:=h t (by simp[hgd,zY,hj,ob,hd])
       simp only[Option.bind_some,hd,ov]
       cases hg:a.tmps[t]? with
       | none=>
         have:a.tmps.getD t undef=undef:=by
          grind
         rw[this]at hat
         cases hv:ts.get t<;>rw[hv]at hat<;>simp[aj,undef]at hat<;>first|rfl|(subst hat;rfl)
       | some v=>
         have:a.tmps.getD t undef=v:=by simp[hg]
         rw[this]at hat
         subst hat
         cases hv:ts.get t with
         | any v=>simp only[aj,rZ];cases v<;>simp[vW,nW]
         | _=>simp[aj,rZ,nW]
theorem BW{T:eA}{cfg:cx}{C:bg}{o:aC}{ρ:Operand->Option AV}{call:bg->FuncId->List AV->aC->Option (AV×aC)}{op:Op}{r:AV×aC}(hk:j9 (bS op)=true)(h:fq T call o_ C ρ o op=some r) :
 ∃id,cU cfg ρ op=.reads id/\∀x∈op.operands.toList,∀v i,ρ x=some v->df v=some i->i=id:=by
 have main:∀t a,op=.load t a->∃id,cU cfg ρ op=.reads id/\∀x∈op.operands.toList,∀v i,ρ x=some v->df v=some i->i=id:=by
  rintro t a rfl
  change zg T C ρ o (.load t a)=some r at h
  simp only[zg,fM,pq]at h
  obtain⟨h1,_⟩:=bF.1 h
  simp only[ag]at h1
  obtain⟨v,hv,h1⟩:=h1
  cases v<;>simp only[nI,reduceCtorEq]at h1
  rename_i id off
  refine⟨id,by simp only[cU,hv,ob,df,Er],λx hx v i hxv hn=>?_⟩
  simp only[Op.operands,List.mem_singleton]at hx
  subst hx
  rw[hv]at hxv
  cases hxv
  cases hn;rfl
 cases op<;>first|exact main _ _ rfl|(cases hk;done)|skip
 rename_i c
 simp only[bS]at hk
 cases hcal:c.callee with
 | value f=>rw[hcal]at hk;cases hk
 | invoke x n=>rw[hcal]at hk;cases hk
 | builtin b=>rw[hcal]at hk;cases b<;>cases hk
section
variable{P:Program}{T:eA}(hT:eE P T){cfg:cx}{call:bg->FuncId->List AV->aC->Option (AV×aC)}(hcall:iT P cfg True call)(hc:bV cfg call){C:bg}{ops:Array Oper}{S:Nat->St}(hR:kr T cfg call C ops S)(hA:wR cfg ops S)
 {D0:Nat->Prop} {m0:Nat->bo} {w0:World} {E D:Nat->Prop} {m:Nat->bo} {a:Act} {w:World} {e:Nat} (h:DI cfg C ops S D0 m0 w0 E D m a w)
 (hdown:∀j,E j->jf ops E j) (he:e<ops.size) (hE:¬E e) (hw:jf ops E e)
include hR hc h he
omit hc in
theorem Mf(hc:bV cfg call)(hall:∀i,hZ cfg ops S E i e):dQ cfg (s6 C S D e) m C (S e).o w:=by
 have h0:=hR.mono' hc (k:=0) (k':=e) (by omega) (by omega)
 refine⟨λi hi=>h.obj i e (by omega) hi.1 hi.2 (hall i),λi j hi hj hij hl hr=>h.inj i j e (by omega) hi.1 hj.1 hi.2 hj.2 (hall i) (hall j) hij hl hr,λi hi=>hi.2,λg hg=>?_,λi hi=>?_,λi hi=>?_,hR.lo,hR.len hc e (by omega)⟩
 · obtain⟨g1,g2,g3⟩:=h.glob g hg
   have:=hR.g0 g hg
   exact⟨⟨g1,by omega⟩,g2,g3⟩
 · have:=hR.lo
   exact⟨⟨(h.root i hi).1,by omega⟩,by rw[hR.root hc e (by omega) hi];exact(h.root i hi).2⟩
 · rw[hR.le hc e (by omega)]at hi;exact hR.le0 i hi
open Classical in
noncomputable def oZ(cfg:cx)(C:bg)(ops:Array Oper)(S:Nat->St)(E:Nat->Prop)(e i:Nat):aw:=if hZ cfg ops S E i e then get C (S e).o i else .dead
omit hc in
theorem xY(hc:bV cfg call){l:List aw}{id:Nat}(hid:id<C.lo+(S e).o.n):get (oI cfg (oZ cfg C ops S E e) (C.lo+(S e).o.n)) (gB l n_) id=oZ cfg C ops S E e id:=by
 rw[A4 hid]
 by_cases hr:cfg.root.n<=id
 · grind
 · rw[if_neg hr]
   have hcb:hZ cfg ops S E id e:=λj hj hw=>absurd hw.2 hr
   unfold oZ
   rw[if_pos hcb,hR.root hc e (by omega) (by omega)]
   exact((h.root id (by omega)).2).symm
omit hc in
theorem Jz(hc:bV cfg call):dQ cfg (s6 C S D e) m (oI cfg (oZ cfg C ops S E e) (C.lo+(S e).o.n)) n_ w:=by
 have h0:=hR.mono' hc (k:=0) (k':=e) (by omega) (by omega)
 have hg:∀i,i<C.lo+(S e).o.n->get (oI cfg (oZ cfg C ops S E e) (C.lo+(S e).o.n)) n_ i=oZ cfg C ops S E e i:=λi hi=>xY (l:=[]) hR h he hc hi
 have hlo:=hR.lo
 refine⟨λi hi=>?_,λi j hi hj hij hl hr=>?_,λi hi=>hi.2,λg hgl=>?_,λi hi=>?_,λi hi=>(by cases hi),(by simp only[oI];omega),rfl⟩
 · rw[hg i hi.2]
   unfold oZ
   split
   · rename_i hcb;exact h.obj i e (by omega) hi.1 hi.2 hcb
   · trivial
 · rw[hg i hi.2]at hl
   rw[hg j hj.2]at hr
   unfold oZ at hl hr
   split at hl
   · rename_i hci
     split at hr
     · rename_i hcj;exact h.inj i j e (by omega) hi.1 hj.1 hi.2 hj.2 hci hcj hij hl hr
     · cases hr
   · cases hl
 · obtain⟨g1,g2,g3⟩:=h.glob g hgl
   have:=hR.g0 g hgl
   exact⟨⟨g1,by omega⟩,g2,g3⟩
 · have hin:i<C.lo+(S e).o.n:=by omega
   refine⟨⟨(h.root i hi).1,hin⟩,?_⟩
   have hh:=A4 (cfg:=cfg) (f:=oZ cfg C ops S E e) (l:=[]) hin
   rw[if_neg (by omega)]at hh
   exact hh
include hT hcall hA hdown hE hw
open Classical in
theorem Co{Q:Exit->Act->World->Prop}{K:Act->World->Prop}(hK:∀D2 m2 a2 w2,DI cfg C ops S D0 m0 w0 (λj=>E j\/j=e) D2 m2 a2 w2->K a2 w2){x:Option Nat}:wpOpIn (FR x) 0 P ops Q e K a w:=by
 obtain⟨op,hop,hstep⟩:=hR.step e he
 have hdst:dq ops e=op.dst:=by simp[dq,hop]
 have ho:∀j,j<ops.size->∀t,t∈kS ops op->dq ops j=some t->j≠e->(E j↔j<e):=λj hj t ht hjt hne=>oL hdown hE hw hne (.inl (hA.tmp e op hop t ht j hjt hne))
 have hod:∀d,dq ops e=some d->∀j,j<ops.size->dq ops j=some d->j≠e->(E j↔j<e):=λd hd j hj hjd hne=>ho j hj d (by rw[hdst]at hd;simp[kS,hd]) hjd hne
 have hct:∀t,t∈kS ops op->yI ops E t e:=λt ht j hj hjt=>by
  grind
 have hwanted:=Ab (m:=m) (ts:=(S e).ts) (a:=a) (ops:=ops) (oo:=op) λt ht=>(h.tmp t e (by omega) (hct t (by simp[kS,ht]))).1
 unfold wpOpIn
 simp only[hop]
 rw[hwanted]
 rcases hstep with⟨hwt,r,hr,hp,hbnd⟩|⟨hwt,hp⟩
 · rw[hwt,if_pos rfl]
   obtain⟨htn,hro,hdd⟩:=fQ hp
   have hd:∀d,dq ops e=some d->d<(S 0).tn:=λd hd=>by rw[<-hR.tn e (by omega)];exact hdd d (by rw[<-hdst];exact hd)
   have hg:∀d,dq ops e=some d->(S (e+1)).ts.get d=r.1:=λd hd=>by rw[nN hp,if_pos (by rw[<-hdst];exact hd)]
   have hfoot:cX cfg ops S e=cU cfg (ea cfg.G (S e).ts) op.op:=by simp only[cX,hop,hwt,cond_true]
   let ρ:Operand->Option AV:=λx=>if x∈op.op.operands.toList then ea cfg.G (S e).ts x else none
   have hρe:∀x∈op.op.operands.toList,ea cfg.G (S e).ts x=ρ x:=λx hx=>(if_pos hx).symm
   have hρ:jE (s6 C S D e) m ρ a.eval:=by
    intro x v hx
    have hxo:x∈op.op.operands.toList:=Classical.byContradiction λhn=>by simp only[ρ,if_neg hn]at hx;cases hx
    simp only[ρ,if_pos hxo]at hx
    have h0:=hR.mono' hc (k:=0) (k':=e) (by omega) (by omega)
    cases x with
    | tmp t=>
      cases hx
      exact h.tmp t e (by omega) (hct t (by simp only[kS,List.mem_append,List.mem_filterMap];exact .inr ⟨_,hxo,rfl⟩))
    | const c=>obtain⟨h1,h2⟩:=pc (m:=m) hx;exact⟨h1.symm,bQ h2⟩
    | global g=>
      simp only[ea,ay,Option.some.injEq,ba]at hx
      obtain⟨hgl,rfl⟩:=hx
      obtain⟨a1,a2,a3⟩:=h.glob g hgl
      refine⟨by simp[Act.eval,aj,a2,a3],λi hi=>?_⟩
      simp only[aq,List.mem_singleton]at hi
      subst hi
      have:=hR.g0 g hgl
      exact⟨⟨a1,by omega⟩,Nat.zero_le _⟩
    | func f=>cases hx;exact⟨by simp[Act.eval,aj,ar],λi hi=>by simp[aq,bG]at hi⟩
   rw[yM hρe]at hr
   rw[y9 hρe]at hfoot
   have hbarall:∀j i,j<ops.size->Wr cfg ops S j i->j≠e->kE (bS op.op)=false->j9 (bS op.op)=false->(E j↔j<e):=by
    intro j i hj hwr hne hnf hnl
    have:∃ids,cX cfg ops S j=.bar ids:=by
     have:=hwr.1
     cases hf:cX cfg ops S j with
     | bar ids=>exact⟨ids,rfl⟩
     | none=>rw[hf]at this;cases this
     | reads id=>rw[hf]at this;cases this
    obtain⟨ids,hids⟩:=this
    rcases hA.bar j ids hj hids e op hop hne with h1|h1|⟨h1,_⟩
    · grind
    · exact oL hdown hE hw hne (.inl h1)
    · grind
   have hself:∀i,hZ cfg ops S E i e\/True:=λ_=>.inr trivial
   by_cases hq:oX (bS op.op)=true
   ·
    have hfe:cD (cX cfg ops S e)=[]:=by rw[hfoot];exact z7 hq
    have hnw:∀i,¬Wr cfg ops S e i:=λi hwr=>by have:=hwr.1;rw[hfe]at this;cases this
    have hi:=Jz hR h he hc
    have hsame:=Au (C':=oI cfg (oZ cfg C ops S E e) (C.lo+(S e).o.n)) (o':=n_) (call':=call) hq hr (by simp[oI,n_]) λhrd x hx v id hxv hn=>by
     have hb:id<C.lo+(S e).o.n:=(vg (hρ x v hxv).2 hn).2
     have hcb:hZ cfg ops S E id e:=λj hj hwr=>by
      by_cases hne:j=e
      · grind
      · by_cases hld:j9 (bS op.op)=true
        · obtain⟨rid,hrid,hrall⟩:=BW (cfg:=cfg) hld hr
          have hide:=hrall x hx v id hxv hn
          have hf':cX cfg ops S e=.reads rid:=by rw[hfoot];exact hrid
          have:∃ids,cX cfg ops S j=.bar ids:=by
           have:=hwr.1
           cases hf:cX cfg ops S j with
           | bar ids=>exact⟨ids,rfl⟩
           | none=>rw[hf]at this;cases this
           | reads id=>rw[hf]at this;cases this
          obtain⟨ids,hids⟩:=this
          rcases hA.bar j ids hj hids e op hop hne with h1|h1|⟨_,h1⟩
          · rw[Cf h1]at hrid;cases hrid
          · exact oL hdown hE hw hne (.inl h1)
          · have:=h1 rid hf'
            have h2:=hwr.1
            rw[hids,hide]at h2
            exact absurd h2 this
        · refine hbarall j id hj hwr hne ?_ (by simpa using hld)
          cases hkk:bS op.op<;>rw[hkk]at hrd<;>first|rfl|cases hrd
     refine(xY (l:=[]) hR h he hc hb).trans ?_
     unfold oZ
     rw[if_pos hcb]
    obtain⟨l,hl,hr'⟩:=hsame
    have hon:(S (e+1)).o=gB l (S e).o:=by rw[hro,hl]
    refine nt (r:=(r.1,gB l n_)) hT hi hρ hcall qC hr' λD' m' w' hv hx _=>?_
    have hlt:∀i,D' i->i<C.lo+(S (e+1)).o.n:=λi hi'=>by
     have:=hx.inv.lt i hi'
     rw[hon]
     simp only[oI,gB,n_]at this ⊢
     omega
    have hnew:∀i,D' i->s6 C S D e i\/C.lo+(S e).o.n<=i:=λi hi'=>by
     have:=hx.new i hi'
     simpa [oI,n_]using this
    have hnown:∀i,s6 C S D e i->(dP (oI cfg (oZ cfg C ops S E e) (C.lo+(S e).o.n)) n_ i).isSome=true->False:=λi hi' hs=>by
     unfold dP at hs
     simp only[oI]at hs
     rw[im (by have:=hi'.2;omega)]at hs
     simp[n_,ew]at hs
    have hgn:∀i,D' i->¬s6 C S D e i->get (oI cfg (oZ cfg C ops S E e) (C.lo+(S e).o.n)) (gB l n_) i=get C (S (e+1)).o i:=λi hi' hn=>by
     rw[hon]
     refine zR (by simp[oI,n_]) ((hnew i hi').resolve_left hn) ?_
     have:=hlt i hi'
     rw[hon]at this
     simp only[gB]at this
     omega
    obtain⟨D2,m2,hcv,hdi⟩:=DI.mute hR hc h he hE hnw hod hd hx.sub hx.same hnew hlt hv hg hx.os hx.tape hx.output hx.size
     ⟨λk hk=>hx.frame k hk λi hi' hs=>(hnown i hi' hs).elim,λi hi' hn=>(hx.fresh i hi' hn).resolve_right λ⟨j,hj,hs,_⟩=>hnown j hj hs⟩
     (λi hi' hn=>by rw[<-hgn i hi' hn];exact hx.inv.obj i hi')
     (λi j hi' hj' hni hnj hij hl' hr''=>by rw[<-hgn i hi' hni]at hl';rw[<-hgn j hj' hnj]at hr'';exact hx.inv.inj i j hi' hj' hij hl' hr'')
    rw[hcv,hdst]at hdi
    exact hK D2 m2 _ _ hdi
   · have hq':oX (bS op.op)=false:=by simpa using hq
     have hnf:kE (bS op.op)=false:=by cases hk:bS op.op<;>rw[hk]at hq'<;>first|rfl|cases hq'
     have hnl:j9 (bS op.op)=false:=by cases hk:bS op.op<;>rw[hk]at hq'<;>first|rfl|cases hq'
     have hall:∀i,hZ cfg ops S E i e:=λi j hj hwr=>by
      grind
     have hi:=Mf hR h he hc hall
     cases hf:cX cfg ops S e with
     | bar ids=>
       have hbd:∀i,D i->i<C.lo+(S e).o.n:=λi hi'=>by
        rcases h.orig i hi' with h5|⟨e',he',hl',h6,h7⟩
        · have:=hR.mono' hc (k:=0) (k':=e) (by omega) (by omega);omega
        · rcases Nat.lt_trichotomy e' e with hlt|heq|hgt
          · have:=hR.mono' hc (k:=e'+1) (k':=e) (by omega) (by omega);omega
          · grind
          · obtain⟨op',hop',hst'⟩:=hR.step e' hl'
            have hkeep:(kE (bS op'.op)=true\/j9 (bS op'.op)=true)->False:=λhk=>by
             have:(S (e'+1)).o=(S e').o:=by
              rcases hst' with⟨_,r',hr',hp',_⟩|⟨_,hp'⟩
              · rw[(fQ hp').2.1,zE hk hr']
              · rw[(fQ hp').2.1]
             rw[this]at h7;omega
            rcases hA.bar e ids he hf e' op' hop' (by omega)with h1|h1|⟨h1,_⟩
            · grind
            · have:=(oL hdown hE hw (j:=e') (by omega) (.inr h1)).1 he';omega
            · grind
       have hBD:s6 C S D e=D:=funext λi=>propext ⟨And.left,λhh=>⟨hh,hbd i hh⟩⟩
       rw[hBD]at hi hρ
       refine nt hT hi hρ hcall qC hr λD' m' w' hv hx _=>?_
       rw[<-hro]at hx
       have:=DI.bar hR hc h he hE hod hd hbd (λj i hj hwr hne=>hbarall j i hj hwr hne hnf hnl) (λi hwr=>zV hρ (by have:=hwr.1;rw[hfoot]at this;exact this)) hv hg hx
       rw[hdst]at this
       exact hK D' m' _ _ this
     | none=>
       have hkc:bS op.op=.call:=Classical.byContradiction λhk=>by
        obtain⟨ids,hids⟩:=xZ (cfg:=cfg) (ρ:=ρ) hq' hk
        rw[hfoot,hids]at hf;cases hf
       have hfe:cD (cU cfg ρ op.op)=[]:=by rw[<-hfoot,hf];rfl
       have hnw:∀i,¬Wr cfg ops S e i:=λi hwr=>by have:=hwr.1;rw[hf]at this;cases this
       refine nt hT hi hρ hcall qC hr λD' m' w' hv hx hmu=>?_
       rw[<-hro]at hx
       obtain⟨D2,m2,hcv,hdi⟩:=DI.mute hR hc h he hE hnw hod hd hx.sub hx.same hx.new hx.inv.lt hv hg hx.os hx.tape hx.output hx.size (hmu trivial hkc hfe)
        (λi hi' _=>hx.inv.obj i hi') (λi j hi' hj' _ _ hij hl' hr''=>hx.inv.inj i j hi' hj' hij hl' hr'')
       rw[hcv,hdst]at hdi
       exact hK D2 m2 _ _ hdi
     | reads id=>
       have hkc:bS op.op=.call:=Classical.byContradiction λhk=>by
        obtain⟨ids,hids⟩:=xZ (cfg:=cfg) (ρ:=ρ) hq' hk
        rw[hfoot,hids]at hf;cases hf
       have hfe:cD (cU cfg ρ op.op)=[]:=by rw[<-hfoot,hf];rfl
       have hnw:∀i,¬Wr cfg ops S e i:=λi hwr=>by have:=hwr.1;rw[hf]at this;cases this
       refine nt hT hi hρ hcall qC hr λD' m' w' hv hx hmu=>?_
       rw[<-hro]at hx
       obtain⟨D2,m2,hcv,hdi⟩:=DI.mute hR hc h he hE hnw hod hd hx.sub hx.same hx.new hx.inv.lt hv hg hx.os hx.tape hx.output hx.size (hmu trivial hkc hfe)
        (λi hi' _=>hx.inv.obj i hi') (λi j hi' hj' _ _ hij hl' hr''=>hx.inv.inj i j hi' hj' hij hl' hr'')
       rw[hcv,hdst]at hdi
       exact hK D2 m2 _ _ hdi
 · rw[hwt,if_neg (by simp)]
   refine⟨λ_ _=>trivial,?_⟩
   obtain⟨htn,hro,hdd⟩:=fQ hp
   have hd:∀d,dq ops e=some d->d<(S 0).tn:=λd hd=>by rw[<-hR.tn e (by omega)];exact hdd d (by rw[<-hdst];exact hd)
   have hg:∀d,dq ops e=some d->(S (e+1)).ts.get d=bj:=λd hd=>by rw[nN hp,if_pos (by rw[<-hdst];exact hd)]
   have hf:cX cfg ops S e=.none:=by simp only[cX,hop,hwt,cond_false]
   have hnw:∀i,¬Wr cfg ops S e i:=λi hwr=>by have:=hwr.1;rw[hf]at this;cases this
   obtain⟨D2,m2,hcv,hdi⟩:=DI.mute (D':=s6 C S D e) (m':=m) (w':=w) (v:=bj) hR hc h he hE hnw hod hd (λ_ hi=>hi) (λ_ _=>rfl) (λ_ hi=>.inl hi) (λi hi=>by rw[hro];exact hi.2) gc hg rfl rfl rfl (Nat.le_refl _)
    ⟨λ_ _=>rfl,λi hi hn=>absurd hi hn⟩ (λi hi hn=>absurd hi hn) (λi j hi _ hn=>absurd hi hn)
   rw[hcv,hdst,gZ]at hdi
   exact hK D2 m2 _ _ hdi
end
theorem vH{p q:Nat->Bool}(h:∀i,q i=true->p i=true):∀l:List Nat,l.countP q<=l.countP p
 | []=>by simp
 | x::l=>by
   have:=vH h l
   rw[List.countP_cons,List.countP_cons]
   cases hq:q x with
   | true=>rw[h x hq];simp;exact this
   | false=>simp only[Bool.false_eq_true,if_false];omega
theorem vo{p q:Nat->Bool}(h:∀i,q i=true->p i=true){e:Nat}(hp:p e=true)(hq:q e=false):∀{l:List Nat},e∈l->l.countP q<l.countP p
 | [],he=>by cases he
 | x::l,he=>by
   rw[List.countP_cons,List.countP_cons]
   rcases List.mem_cons.1 he with rfl|he
   · have:=vH h l
     rw[hp,hq];simp;omega
   · have:=vo h hp hq he
     cases hx:q x with
     | true=>rw[h x hx];simp;exact this
     | false=>simp only[Bool.false_eq_true,if_false];omega
def nJ(listed:Array Bool)(j:Nat):Prop:=listed.getD j false=true
theorem mh(listed:Array Bool){i:Nat}(h:i<listed.size):listed.getD i true=listed.getD i false:=by simp[Array.getD,h]
theorem A2{listed:Array Bool}{i:Nat}(h:i<listed.size)(j:Nat):nJ (listed.setIfInBounds i true) j↔nJ listed j\/j=i:=by
 unfold nJ
 by_cases e:j=i
 · simp_all
 · simp only[e,or_false,Array.getD,Array.size_setIfInBounds]
   split
   · rw[Array.getInternal_eq_getElem,Array.getInternal_eq_getElem,Array.getElem_setIfInBounds_ne (h:=λe'=>e e'.symm)]
   · rfl
theorem oT{ops:Array Oper}{listed:Array Bool}(hs:listed.size=ops.size){i:Nat}:i∈Region.ready .any ops listed↔i<ops.size/\¬nJ listed i/\jf ops (nJ listed) i:=by
 unfold Region.ready
 rw[List.mem_filter,List.mem_range]
 constructor
 · rintro⟨hi,h⟩
   rw[mh listed (by omega)]at h
   have hop:ops[i]? = some ops[i]:=by simp[hi]
   simp only[hop,Option.map_some,Option.getD_some,Bool.and_eq_true,Bool.not_eq_true']at h
   refine⟨hi,by unfold nJ;simp[h.1],λo ho e he hb=>?_⟩
   rw[hop]at ho
   cases ho
   have:=h.2
   rw[<-Array.all_toList,List.all_eq_true]at this
   have:=this e he
   simpa [hb,nJ]using this
 · rintro⟨hi,h1,h2⟩
   refine⟨hi,?_⟩
   have hop:ops[i]? = some ops[i]:=by simp[hi]
   rw[mh listed (by omega)]
   simp only[hop,Option.map_some,Option.getD_some,Bool.and_eq_true,Bool.not_eq_true']
   refine⟨by unfold nJ at h1;simpa using h1,?_⟩
   rw[<-Array.all_toList,List.all_eq_true]
   intro e he
   cases hb:Region.binds .any e with
   | false=>simp
   | true=>have:=h2 _ hop e he hb;simpa [nJ]using this
section
variable{P:Program}{T:eA}(hT:eE P T){cfg:cx}{call:bg->FuncId->List AV->aC->Option (AV×aC)}(hcall:iT P cfg True call)(hc:bV cfg call){C:bg}{ops:Array Oper}{S:Nat->St}(hR:kr T cfg call C ops S)(hA:wR cfg ops S)
 {D0:Nat->Prop} {m0:Nat->bo} {w0:World}
include hT hcall hc hR hA
theorem Ob{x:Option Nat}{Q:Exit->Act->World->Prop}(hq:∀D m a w,DI cfg C ops S D0 m0 w0 (λj=>j<ops.size) D m a w->Q .normal a w):∀(fuel:Nat) (listed:Array Bool),listed.size=ops.size->((List.range ops.size).countP λi=>!listed.getD i true)<=fuel->
 (∀j,nJ listed j->jf ops (nJ listed) j)->∀{D:Nat->Prop} {m:Nat->bo} {a:Act} {w:World},DI cfg C ops S D0 m0 w0 (nJ listed) D m a w->wpAnyIn (FR x) 0 P .any ops Q fuel listed a w:=by
 have fin:∀(listed:Array Bool),listed.size=ops.size->Region.ready .any ops listed=[]->∀{D:Nat->Prop} {m:Nat->bo} {a:Act} {w:World},DI cfg C ops S D0 m0 w0 (nJ listed) D m a w->Q .normal a w:=by
  intro listed hs hr D m a w h
  have hall:∀j,j<ops.size->nJ listed j:=by
   intro j
   induction j using Nat.strongRecOn with
   | ind j ih=>
     intro hj
     refine Classical.byContradiction λhn=>?_
     have:j∈Region.ready .any ops listed:=(oT hs).2 ⟨hj,hn,λo ho e he hb=>by
      have:=hA.edge j o ho e he hb
      exact ih e.on this (by omega)⟩
     rw[hr]at this;cases this
  have heq:nJ listed=λj=>j<ops.size:=funext λj=>propext ⟨λhh=>(by
   refine Classical.byContradiction λhn=>?_
   unfold nJ at hh
   simp only[Array.getD]at hh
   rw[dif_neg (by omega)]at hh
   cases hh),hall j⟩
  rw[heq]at h
  exact hq D m a w h
 intro fuel
 induction fuel with
 | zero=>
   intro listed hs hcnt hd D m a w h
   have hr:Region.ready .any ops listed=[]:=by
    rw[List.eq_nil_iff_forall_not_mem]
    intro i hi
    obtain⟨h1,h2,_⟩:=(oT hs).1 hi
    have:0<(List.range ops.size).countP λi=>!listed.getD i true:=List.countP_pos_iff.2 ⟨i,List.mem_range.2 h1,by rw[mh listed (by omega)];unfold nJ at h2;simpa using h2⟩
    omega
   exact⟨hr,fin listed hs hr h⟩
 | succ fuel ih=>
   intro listed hs hcnt hd D m a w h
   refine⟨λhr=>fin listed hs hr h,λi hi=>?_⟩
   obtain⟨h1,h2,h3⟩:=(oT hs).1 hi
   have hset:nJ (listed.setIfInBounds i true)=λj=>nJ listed j\/j=i:=funext λj=>propext (A2 (by omega) j)
   refine Co hT hcall hc hR hA h hd h1 h2 h3 λD2 m2 a2 w2 h'=>?_
   refine ih (listed.setIfInBounds i true) (by simp[hs]) ?_ ?_ (by rw[hset];exact h')
   · have hlt:(List.range ops.size).countP (λj=>!(listed.setIfInBounds i true).getD j true)<(List.range ops.size).countP (λj=>!listed.getD j true):=by
      refine vo (e:=i) (λj hj=>?_) ?_ ?_ (List.mem_range.2 h1)
      · by_cases hjs:j<listed.size
        · rw[mh _ (by simpa using hjs)]at hj
          rw[mh _ hjs]
          have:¬nJ (listed.setIfInBounds i true) j:=by unfold nJ;simpa using hj
          rw[A2 (by omega)]at this
          have:¬nJ listed j:=λhh=>this (.inl hh)
          unfold nJ at this;simpa using this
        · grind
      · rw[mh _ (by omega)];unfold nJ at h2;simpa using h2
      · simp_all
     omega
   · intro j hj o ho e he hb
     rw[hset]at hj ⊢
     rcases hj with hj|rfl
     · exact .inl (hd j hj o ho e he hb)
     · exact .inl (h3 o ho e he hb)
end
section
variable{P:Program}{T:eA}(hT:eE P T)(hm:P.follows .mixedOrders=true){cfg:cx}{C:bg}{call:bg->FuncId->List AV->aC->Option (AV×aC)}(hcall:iT P cfg True call)(hc:bV cfg call)
include hT hm hcall hc
theorem Jk{x:Option Nat}{rnd:bg->Nat->List AV->aC->Option (AV×aC)}{callI:bg->FuncId->List AV->aC->Option (AV×aC)}{ops:Array Oper}{id:Nat}{Q:Exit->Act->World->Prop}{D:Nat->Prop}{m:Nat->bo}{st st':St}{a:Act}{w:World}(hi:dQ cfg D m C st.o w)(ht:TR D m st a)(h:iJ T cfg call rnd C callI ops true st=some st')
 (hq:∀D' m' a' w',TR D' m' st' a'->dk cfg C D m st.o w D' m' st'.o w'->Q .normal a' w'):(Code.region id ops true).wpIn (FR x) 0 P Q a w:=by
 simp only[iJ,cond_true,ag,ay,Option.some.injEq]at h
 obtain⟨acc,hs,r,hd,hap,rfl⟩:=h
 obtain⟨S,h0,hn,hst,_⟩:=vK (by simp) hd
 rw[Nat.zero_add]at hn
 have hlen:ops.toList.length=ops.size:=by simp
 rw[hlen]at hn
 have hst':∀k,k<ops.size->t_ T cfg call C ops S k/\(k,cX cfg ops S k)∈r.2:=λk hk=>hst k (Nat.zero_le _) (by rw[hlen];omega)
 have hR:kr T cfg call C ops S:=⟨λk hk=>(hst' k hk).1,by rw[h0];exact hi.len,by rw[h0];exact hi.le,hi.lo,λg hg=>by rw[h0];exact hi.lt g (hi.glob g hg).1⟩
 have hA:wR cfg ops S:=CU hs (λk hk=>(hst' k hk).2) hap
 refine wpIn_region_any hm (Ob hT hcall hc hR hA (D0:=D) (m0:=m) (w0:=w) (λD' m' a' w' hdi=>?_) ops.size _ (by simp) ?_ ?_ (D:=D) (m:=m) ?_)
 · have hbd:∀i,D' i->i<C.lo+(S ops.size).o.n:=λi hi'=>by
    rcases hdi.orig i hi' with h5|⟨e,_,he,_,h7⟩
    · have:=hR.mono' hc (k:=0) (k':=ops.size) (by omega) (by omega);omega
    · have:=hR.mono' hc (k:=e+1) (k':=ops.size) (by omega) (by omega);omega
   have hall:∀i,hZ cfg ops S (λj=>j<ops.size) i ops.size:=λi j hj _=>⟨λ_=>hj,λ_=>hj⟩
   have hallt:∀t,yI ops (λj=>j<ops.size) t ops.size:=λi j hj _=>⟨λ_=>hj,λ_=>hj⟩
   have htr:TR D' m' (S ops.size) a':=⟨by rw[hdi.sz,hR.tn _ (Nat.le_refl _)],λt=>(hdi.tmp t _ (Nat.le_refl _) (hallt t)).1,λt=>(hdi.tmp t _ (Nat.le_refl _) (hallt t)).2.mono (λi hi'=>hi'.1) λ_ _=>rfl,by rw[hdi.defers,(hR.ds _ (Nat.le_refl _)).1,gq (D:=D) (by rw[h0];exact ht.dsD) hdi.mv.same],λd hd=>hdi.mv.sub d (by rw[(hR.ds _ (Nat.le_refl _)).1,h0]at hd;exact ht.dsD d hd),λi hi'=>hdi.mv.sub i (by rw[(hR.ds _ (Nat.le_refl _)).2,h0]at hi';exact ht.roD i hi')⟩
   have hinv:dQ cfg D' m' C (S ops.size).o w':=by
    refine⟨λi hi'=>(hdi.obj i _ (Nat.le_refl _) hi' (hbd i hi') (hall i)).mono (λj hj=>hj.1) λ_ _=>rfl,λi j hi' hj' hij hl hr=>hdi.inj i j _ (Nat.le_refl _) hi' hj' (hbd i hi') (hbd j hj') (hall i) (hall j) hij hl hr,hbd,hdi.glob,λi hi'=>?_,λi hi'=>?_,hR.lo,hR.len hc _ (Nat.le_refl _)⟩
    · exact⟨(hdi.root i hi').1,by rw[hR.root hc _ (Nat.le_refl _) hi'];exact(hdi.root i hi').2⟩
    · rw[hR.le hc _ (Nat.le_refl _)]at hi';exact hR.le0 i hi'
   rw[hn]at htr hinv
   have hmv:=hdi.mv
   rw[h0]at hmv
   have hgrow:=hR.mono' hc (k:=0) (k':=ops.size) (by omega) (by omega)
   have hle:=hR.le hc ops.size (Nat.le_refl _)
   rw[h0,hn]at hgrow hle
   exact hq D' m' a' w' htr ⟨hinv,hmv.sub,hmv.same,hmv.new,hgrow,hmv.os,hmv.tape,hmv.output,hmv.size,hmv.frame,hle,hmv.fresh⟩
 · refine Nat.le_trans List.countP_le_length (by simp)
 · intro j hj
   unfold nJ at hj
   simp only[Array.getD]at hj
   split at hj
   · simp at hj
   · cases hj
 · have hno:∀j,¬nJ (Array.replicate ops.size false) j:=λj hj=>by
    unfold nJ at hj
    simp only[Array.getD]at hj
    split at hj
    · simp at hj
    · cases hj
   have cT:∀t k,k<=ops.size->yI ops (nJ (Array.replicate ops.size false)) t k->(S k).ts.get t=st.ts.get t:=λt k hk hct=>by
    rw[<-h0]
    exact hR.ts' (by omega) hk λj _ hj hjt=>hno j ((hct j (by omega) hjt).2 hj)
   have cB:∀i k,k<=ops.size->D i->hZ cfg ops S (nJ (Array.replicate ops.size false)) i k->get C (S k).o i=get C st.o i:=λi k hk hdi hcb=>by
    have:=hi.lt i hdi
    have:=hR.same' hc (k:=0) (k':=k) (i:=i) (by omega) hk (by rw[h0];exact this) λj _ hj hw=>hno j ((hcb j (by omega) hw).2 hj)
    rw[this,h0]
   have bel:∀k,k<=ops.size->∀i,D i->s6 C S D k i:=λk hk i hdi=>⟨hdi,by
    have:=hi.lt i hdi
    have h1:=hR.mono' hc (k:=0) (k':=k) (by omega) hk
    rw[h0]at h1
    omega⟩
   refine{ sz:=by rw[h0];exact ht.size,defers:=by rw[h0];exact ht.defers,tmp:=λt k hk hct=>?_,obj:=λi k hk hdi _ hcb=>?_,inj:=λi j k hk hdi hdj _ _ hci hcj hij hl hr=>?_,orig:=λi hdi=>.inl (by rw[h0];exact hi.lt i hdi),wr:=λj i hj=>absurd hj (hno j),glob:=hi.glob,root:=λi hid=>by rw[h0];exact hi.root i hid,mv:=?_ }
   · rw[cT t k hk hct]
     exact⟨ht.at' t,(ht.okt t).mono (bel k hk) λ_ _=>rfl⟩
   · rw[cB i k hk hdi hcb]
     exact(hi.obj i hdi).mono (bel k hk) λ_ _=>rfl
   · rw[cB i k hk hdi hci]at hl
     rw[cB j k hk hdj hcj]at hr
     exact hi.inj i j hdi hdj hij hl hr
   · exact⟨λ_ hh=>hh,λ_ _=>rfl,λ_ hh=>.inl hh,rfl,rfl,rfl,Nat.le_refl _,λ_ _ _=>rfl,λi hh hn=>absurd hh hn⟩
theorem Cn{x:Option Nat}{rnd:bg->Nat->List AV->aC->Option (AV×aC)}{callI:bg->FuncId->List AV->aC->Option (AV×aC)}(hcI:iT P cfg False callI)(hrI:xV P cfg False rnd){ops:Array Oper}{id:Nat}{draw:Bool}{Q:Exit->Act->World->Prop}{D:Nat->Prop}{m:Nat->bo}{st st':St}{a:Act}{w:World}(hi:dQ cfg D m C st.o w)(ht:TR D m st a)(h:iJ T cfg call rnd C callI ops draw st=some st')
 (hq:∀D' m' a' w',TR D' m' st' a'->dk cfg C D m st.o w D' m' st'.o w'->Q .normal a' w'):(Code.region id ops draw).wpIn (FR x) 0 P Q a w:=by
 cases draw with
 | true=>exact Jk hT hm hcall hc hi ht h hq
 | false=>
   simp only[iJ,cond_false]at h
   refine wpIn_region ?_
   have:=Aw hT hcI hrI (Q:=Q) (x:=x) ops.toList 0 (by simp) hi ht h hq
   simpa [List.range_eq_range']using this
end
def grown(o1 o:aC):aC:=⟨o1.n+o.n,o1.os++o.os,o.le⟩
theorem pH{C:bg}{o1 o:aC}{i:Nat}(hl:o1.os.length=o1.n)(hi:i<C.lo+o.n):get C (grown o1 o) i=get C o i:=by
 rw[get,ff,get,ff]
 by_cases hb:C.lo<=i
 · rw[bt.2 hb,cond_true,cond_true]
   unfold grown aC.at
   simp only[List.getD_eq_getElem?_getD]
   rw[List.getElem?_append_right (by omega),show o1.n+o.n-1-(i-C.lo)-o1.os.length=o.n-1-(i-C.lo)by omega]
 · rw[im hb];rfl
theorem vJ{C:bg}{o1 o:aC}{i:Nat}(hl:o1.os.length=o1.n)(h1:C.lo+o.n<=i)(h2:i<C.lo+o.n+o1.n):get C (grown o1 o) i=o1.at (i-(C.lo+o.n)):=by
 rw[get,ff,bt.2 (by omega:C.lo<=i),cond_true]
 unfold grown aC.at
 simp only[List.getD_eq_getElem?_getD]
 rw[List.getElem?_append_left (by omega),show o1.n+o.n-1-(i-C.lo)=o1.n-1-(i-(C.lo+o.n))by omega]
theorem eb.grown{C:bg}{o1 o:aC}{ids:List Nat}(hl:o.os.length=o.n)(hl1:o1.os.length=o1.n):eb C o (grown o1 o) ids:=
 ⟨by simp[Ev.grown],rfl,by simp[Ev.grown,hl,hl1],λ_ i hi _=>pH hl1 hi⟩
theorem sw{C:bg}{ids:List Nat}:∀{l:List (Nat×aw)} {o:aC},o.os.length=o.n->(∀p∈l,p.1∈ids)->eb C o (mC C o l) ids
 | [],o,hl,_=>.refl hl
 | p::l,o,hl,h=>by
   rw[mC]
   exact(eb.put hl (h p List.mem_cons_self)).trans (sw (jY hl) λq hq=>h q (List.mem_cons_of_mem _ hq))
theorem g7{C:bg}{o:aC}:∀{ids:List Nat} {p:Nat×aw},p∈fa C o ids->p.1∈ids/\dP C o p.1=some p.2
 | [],p,h=>by cases h
 | id::ids,p,h=>by
   rw[fa]at h
   have rec':p∈fa C o ids->p.1∈id::ids/\dP C o p.1=some p.2:=λh=>⟨List.mem_cons_of_mem _ (g7 h).1,(g7 h).2⟩
   cases hm:pZ id ids with
   | true=>rw[hm,cond_true]at h;exact rec' h
   | false=>
     grind
theorem je{C:bg}{o:aC}:∀{ids:List Nat},((fa C o ids).map (·.1)).Nodup
 | []=>by simp[fa]
 | id::ids=>by
   rw[fa]
   cases hm:pZ id ids with
   | true=>rw[cond_true];exact je
   | false=>
     rw[cond_false]
     cases hx:dP C o id with
     | none=>exact je
     | some x=>
       simp only[List.map_cons,List.nodup_cons]
       refine⟨λhin=>?_,je⟩
       obtain⟨p,hp,e⟩:=List.mem_map.1 hin
       have:=(g7 hp).1
       rw[e]at this
       rw[oV.2 this]at hm
       cases hm
def LL(o o':aC):Prop:=o.os.length=o.n->o'.os.length=o'.n/\o'.le.map (·.1)=o.le.map (·.1)
theorem LL.refl(o:aC):LL o o:=λh=>⟨h,rfl⟩
theorem LL.trans{o o1 o2:aC}(h:LL o o1)(k:LL o1 o2):LL o o2:=λhl=>⟨(k (h hl).1).1,(k (h hl).1).2.trans (h hl).2⟩
theorem LL.put{C:bg}{o:aC}{id:Nat}{x:aw}:LL o (dY C o id x):=λh=>⟨jY h,m_⟩
theorem LL.push{o:aC}{x:aw}:LL o (o.push x):=λh=>⟨by simp[aC.push,h],rfl⟩
theorem LL.foot{C:bg}{o o':aC}{ids:List Nat}(h:o.os.length=o.n->eb C o o' ids):LL o o':=λhl=>⟨(h hl).len,(h hl).le⟩
def j2(code:bg->Code->St->Option (AX×St)):Prop:=∀C c st r,code C c st=some r->LL st.o r.2.o/\r.2.ro=st.ro
def wY(call:bg->FuncId->List AV->aC->Option (AV×aC)):Prop:=∀C f args o r,call C f args o=some r->LL o r.2
def AF(rnd:bg->Nat->List AV->aC->Option (AV×aC)):Prop:=∀C id args o r,rnd C id args o=some r->LL o r.2
theorem vy{C:bg}:∀{ds:List Nat} {o o':aC},m7 C o ds=some o'->LL o o'
 | [],o,o',h=>by cases h;exact .refl o
 | d::ds,o,o',h=>by
   unfold m7 at h
   split at h
   · exact LL.put.trans (vy h)
   · cases h
section
variable{T:eA}{cfg:cx}{code:bg->Code->St->Option (AX×St)}
theorem p8{C:bg}{fn:Func}{c:Code}{args:List AV}{o0:aC}{r:AV×aC}(h:jt T code C fn c args o0=some r) :
 args.length<=1000/\∃x o vs,code C c (ij fn args o0)=some x/\(∀id,x.1≠.exit id)/\m7 C x.2.o x.2.ds=some o/\yv T C ⟨x.2.ts,x.2.tn,o,[],none⟩ fn.results.toList=some vs/\r=(rY vs,o):=by
 simp only[jt,ay,ag,bt]at h
 obtain⟨h1,x,hx,h⟩:=h
 refine⟨h1,?_⟩
 unfold qj at h
 split at h
 · cases h
 · rename_i hne
   simp only[ag,Option.some.injEq]at h
   obtain⟨o,ho,vs,hvs,rfl⟩:=h
   exact⟨x,o,vs,hx,λid e=>hne id e,ho,hvs,rfl⟩
theorem lU(hll:j2 code){C:bg}{fn:Func}{c:Code}{args:List AV}{o0:aC}{r:AV×aC}(h:jt T code C fn c args o0=some r):LL o0 r.2:=by
 obtain⟨_,x,o,vs,hx,_,hm,_,rfl⟩:=p8 h
 exact(hll _ _ _ _ hx).1.trans (vy hm)
theorem sB(hll:j2 code){C:bg}{fn:Func}{c:Code}{args:List AV}{o:aC}{r:AV×aC}{ids:List Nat}(h:vc T code C fn c args o (fa C o ids)=some r)(hl:o.os.length=o.n):eb C o r.2 ids:=by
 simp only[vc,ag,Option.some.injEq]at h
 obtain⟨r1,he,rfl⟩:=h
 obtain⟨h1,h2⟩:=lU hll he rfl
 have hg:eb C o (grown r1.2 o) ids:=.grown hl h1
 unfold wj
 split
 · cases fU (C.lo+o.n) 20 r1.1 with
   | true=>exact .refl hl
   | false=>exact hg
 · refine hg.trans (sw hg.len λp hp=>?_)
   have:p.1∈(fa C o ids).map (·.1):=by
    grind
   obtain⟨q,hq,e⟩:=List.mem_map.1 this
   rw[<-e]
   exact(g7 hq).1
theorem sH(horc:bV cfg λC f args o=>cfg.orc f C args o)(hll:j2 code):bV cfg (jH T cfg false code):=by
 intro C f args o r h hl
 unfold jH at h
 cases ho:cfg.orc f C args o with
 | some r'=>
   rw[ho]at h
   cases h
   exact horc C f args o r ho hl
 | none=>
   rw[ho]at h
   simp only[yc,ag]at h
   obtain⟨fc,_,h⟩:=h
   cases hb:(cfg.canon f&&aG cfg.root.n args)with
   | true=>
     simp only[hb,cond_true,ag,Option.some.injEq]at h
     obtain⟨v,_,rfl⟩:=h
     exact .refl hl
   | false=>
     simp only[hb,cond_false,yF,Bool.false_and]at h
     exact sB hll h hl
theorem G3{inl:Bool}(horc:bV cfg λC f args o=>cfg.orc f C args o)(hll:j2 code):wY (jH T cfg inl code):=by
 intro C f args o r h
 unfold jH at h
 cases ho:cfg.orc f C args o with
 | some r'=>
   rw[ho]at h
   cases h
   exact .foot λhl=>horc C f args o r ho hl
 | none=>
   rw[ho]at h
   simp only[yc,ag]at h
   obtain⟨fc,_,h⟩:=h
   cases hb:(cfg.canon f&&aG cfg.root.n args)with
   | true=>
     simp only[hb,cond_true,ag,Option.some.injEq]at h
     obtain⟨v,_,rfl⟩:=h
     exact .refl _
   | false=>
     simp only[hb,cond_false,yF]at h
     cases hy:(inl&&xK args)with
     | true=>rw[hy,cond_true]at h;exact lU hll h
     | false=>rw[hy,cond_false]at h;exact .foot λhl=>sB hll h hl
theorem FW(cf:cx){call:bg->FuncId->List AV->aC->Option (AV×aC)}(hc:wY call){rnd:bg->Nat->List AV->aC->Option (AV×aC)}(hr:AF rnd){C:bg}{ρ:Operand->Option AV}{o:aC}{op:Op}{r:AV×aC}(h:fq T call rnd C ρ o op=some r):LL o r.2:=by
 have other:fq T (λ_ _ _ _=>none) o_ C ρ o op=some r->LL o r.2:=λh'=>.foot λhl=>mV (cfg:=cf) (λC f args o r h=>by cases h) h' hl
 cases op with
 | call c=>
   unfold fq og at h
   unfold fq og at other
   cases hcal:c.callee with
   | value f=>
     simp only[hcal,ag]at h
     obtain⟨fv,hf,vs,hvs,h⟩:=h
     cases fv<;>simp only[AN,reduceCtorEq]at h
     · exact hc _ _ _ _ _ h
     · exact hr _ _ _ _ _ h
   | builtin b=>simp only[hcal]at h other;exact other h
   | invoke x n=>simp only[hcal]at h other;exact other h
 | _=>exact other h
theorem wX{call:bg->FuncId->List AV->aC->Option (AV×aC)}(hc:wY call){rnd:bg->Nat->List AV->aC->Option (AV×aC)}(hr:AF rnd){C:bg}{ops:Array Oper}:∀{l:List Oper} {st st':St},yH T cfg call rnd C ops l st=some st'->LL st.o st'.o/\st'.ro=st.ro
 | [],st,st',h=>by cases h;exact⟨.refl _,rfl⟩
 | oo::rest,st,st',h=>by
   simp only[yH,ag]at h
   obtain⟨st1,hs,h⟩:=h
   cases hw:dV ops st.ts oo.guard with
   | true=>
     simp only[hw,cond_true,ag]at hs
     obtain⟨r,hr',hp⟩:=hs
     have hf:=FW cfg hc hr hr'
     rw[<-(fQ hp).2.1]at hf
     obtain⟨a,b⟩:=wX hc hr h
     exact⟨hf.trans a,b.trans (lO hp).2⟩
   | false=>
     simp only[hw,cond_false]at hs
     have e:=(fQ hs).2.1
     obtain⟨a,b⟩:=wX hc hr h
     rw[e]at a
     exact⟨a,b.trans (lO hs).2⟩
theorem rB{call:bg->FuncId->List AV->aC->Option (AV×aC)}(hc:bV cfg call){C:bg}{ops:Array Oper}:∀{l:List Oper} {i:Nat} {st:St} {log:List (Nat×fb)} {r:St×List (Nat×fb)},mG T cfg call C ops i l st log=some r->LL st.o r.1.o/\r.1.ro=st.ro
 | [],i,st,log,r,h=>by cases h;exact⟨.refl _,rfl⟩
 | oo::rest,i,st,log,r,h=>by
   unfold mG at h
   cases hw:dV ops st.ts oo.guard with
   | true=>
     simp only[hw,cond_true,ag,ay]at h
     obtain⟨q,hr,st1,hp,_,h⟩:=h
     have hf:LL st.o q.2:=.foot λhl=>mV hc hr hl
     rw[<-(fQ hp).2.1]at hf
     obtain⟨a,b⟩:=rB hc h
     exact⟨hf.trans a,b.trans (lO hp).2⟩
   | false=>
     simp only[hw,cond_false,ag]at h
     obtain⟨st1,hs,h⟩:=h
     have e:=(fQ hs).2.1
     obtain⟨a,b⟩:=rB hc h
     rw[e]at a
     exact⟨a,b.trans (lO hs).2⟩
theorem zv{call callI:bg->FuncId->List AV->aC->Option (AV×aC)}(hc:bV cfg call)(hcI:wY callI){rnd:bg->Nat->List AV->aC->Option (AV×aC)}(hr:AF rnd){C:bg}{ops:Array Oper}{draw:Bool}{st st':St}(h:iJ T cfg call rnd C callI ops draw st=some st'):LL st.o st'.o/\st'.ro=st.ro:=by
 cases draw with
 | true=>
   simp only[iJ,cond_true,ag,ay,Option.some.injEq]at h
   obtain⟨acc,hs,r,hd,hap,rfl⟩:=h
   exact rB hc hd
 | false=>exact wX hcI hr h
theorem gh{C:bg}{o:aC}{id:Nat}{r:vT}(h:mS C o id=some r):dP C o id=some (.loop r):=by
 unfold mS at h
 split at h
 · grind
 · cases h
theorem B_(hll:j2 code):AF (mX code):=by
 intro C id args o r h
 simp only[mX,ag]at h
 obtain⟨q,_,ts,_,x,hx,h⟩:=h
 simp only[kK,ay,ag]at h
 obtain⟨_,q1,_,_,x2,hx2,h⟩:=h
 simp only[pF,ag,Option.some.injEq]at h
 obtain⟨q2,_,rfl⟩:=h
 exact(((hll _ _ _ _ hx).1.trans LL.put).trans (hll _ _ _ _ hx2).1).trans LL.put
theorem BI{f:St->Option (AX×St)}{x r:AX×St}{st:St}(h:pO f x=some r)(hx:LL st.o x.2.o/\x.2.ro=st.ro)(hf:∀st r,f st=some r->LL st.o r.2.o/\r.2.ro=st.ro) :
 LL st.o r.2.o/\r.2.ro=st.ro:=by
 unfold pO at h
 split at h
 · obtain⟨a,b⟩:=hf _ _ h
   exact⟨hx.1.trans a,b.trans hx.2⟩
 · grind
theorem nR(horc:bV cfg λC f args o=>cfg.orc f C args o):∀n,j2 (ec T cfg n)
 | 0,C,c,st,r,h=>by cases h
 | n+1,C,c,st,r,h=>by
   have ih:=nR horc n
   unfold ec at h
   cases c<;>simp only[eO]at h
   case skip=>cases h;exact⟨.refl _,rfl⟩
   case label=>cases h;exact⟨.refl _,rfl⟩
   case seq a b=>
    simp only[Jp,ag]at h
    obtain⟨x,hx,h⟩:=h
    exact BI h (ih _ _ _ _ hx) λst r=>ih _ _ st r
   case cond c a b=>
    simp only[Bz,ag]at h
    obtain⟨v,hv,h⟩:=h
    unfold Dq at h
    split at h
    · exact ih _ _ _ _ h
    · exact ih _ _ _ _ h
    · cases h
   case block id b=>
    simp only[xh,ag,Option.some.injEq]at h
    obtain⟨x,hx,rfl⟩:=h
    have:=ih _ _ _ _ hx
    unfold jA
    split
    · grind
    · exact this
   case loop b=>
    simp only[Bn,ag]at h
    obtain⟨x,hx,h⟩:=h
    exact BI h (ih _ _ _ _ hx) λst r=>ih _ _ st r
   case scope b=>exact ih _ _ _ _ h
   case exit=>cases h;exact⟨.refl _,rfl⟩
   case ret=>cases h;exact⟨.refl _,rfl⟩
   case region id ops draw=>
    simp only[nu,ag,Option.some.injEq]at h
    obtain⟨st',hs,rfl⟩:=h
    exact zv (sH horc ih) (G3 horc ih) (B_ ih) hs
   case rangeFunc g ps assign body=>
    simp only[xd,ag]at h
    obtain⟨gv,_,e,he,x,hx,h⟩:=h
    simp only[sk,ag,ay,Option.some.injEq]at h
    obtain⟨q,_,_,ax,_,rfl⟩:=h
    have h1:LL st.o e.2.1:=by
     unfold lZ at he
     split at he
     · cases he;exact LL.push
     · simp only[ag,Option.some.injEq]at he
       obtain⟨_,_,rfl⟩:=he
       exact .refl _
    have h2:LL (e.2.1.push (.loop ⟨.ready,none,st.ts,st.tn,ps,assign,body,e.1⟩)) x.2:=by
     cases gv<;>simp only[rc,reduceCtorEq]at hx
     rw[ag]at hx
     obtain⟨fc,_,hx⟩:=hx
     exact lU ih hx
    exact⟨((h1.trans LL.push).trans h2).trans LL.put,rfl⟩
   all_goals cases h
end
end Go.Ev
