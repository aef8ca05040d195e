import Derived.OrdersIn
import Derived.LoopNIn
import Derived.Test.YtcffhjfdlflbgaaGreatDoorP08
set_option linter.all false
open Option.some renaming injEq->ν
open Nat renaming le_refl->ξ
set_option linter.all false
set_option maxRecDepth 100000
set_option maxHeartbeats 4000000
namespace Go.Ev
open Go Go.RowKit
variable{a:Act}{ops:Array Oper}{C:bg}{op:Op}{r:AV×aB}{id i:Nat}{x:Option Nat}{st st':St}{draw:Bool}{o1 o0:aB}{fn:Func}{c:Code}{args:List AV}
theorem Fp{m:Nat->bv}{ts:Ts}{oo:Oper}(h:∀t,EK ops oo.guard=some t->a.tmps.getD t undef=aj m (ts.b0 t)):Region.wanted oo (yielded ops a.tmps)=ll ops ts oo.guard:=by
 unfold Region.wanted ll;cases hgd:oo.guard with
 | none=>rfl
 | some jw=>
   obtain⟨j,want⟩:=jw;simp only[yielded];cases hj:ops[j]? with
   | none=>simp
   | some op=>
     cases hd:op.dst with
     | none=>simp[hd,rn]
     | some t=>
       have hat:=h t (by grind [EK,ob]);simp only[Option.bind_some,hd,rn];cases hg:a.tmps[t]? with
       | none=>
         have:a.tmps.getD t undef=undef:=by
          grind
         rw[this]at hat;cases hv:ts.b0 t<;>rw[hv]at hat<;>simp[aj,undef]at hat<;>first|rfl|(subst hat;rfl)
       | some v=>
         have:a.tmps.getD t undef=v:=by simp[hg]
         rw[this]at hat;subst hat;cases hv:ts.b0 t with
         | j v=>simp only[aj,yS];cases v<;>simp[B0,ru]
         | _=>simp[aj,yS,ru]
theorem IG{T:fm}{cfg:cL}{o:aB}{ρ:Operand->Option AV}{call:bg->FuncId->List AV->aB->Option (AV×aB)}(hk:m_ (eR op))(h:gQ T call tP C ρ o op=some r) :
 ∃id,cX cfg ρ op=.a id/\∀x∈op.operands.toList,∀v i,ρ x=some v->cW v=some i->i=id:=by
 have main:∀t a,op=.load t a->∃id,cX cfg ρ op=.a id/\∀x∈op.operands.toList,∀v i,ρ x=some v->cW v=some i->i=id:=by
  rintro t a rfl;change Eo T C ρ o (.load t a)=some r at h;simp only[Eo,gW,tN]at h;obtain⟨h1,_⟩:=bK.1 h;simp only[ag]at h1;obtain⟨v,hv,h1⟩:=h1;cases v<;>simp only[ab2,reduceCtorEq]at h1;rename_i id off;refine⟨id,by grind [cX,ob,cW,Mi],λx hx v i hxv hn=>?_⟩;simp only[Op.operands,List.mem_singleton]at hx;subst hx;rw[hv]at hxv;cases hxv;cases hn;rfl
 cases op<;>first|exact main _ _ rfl|(cases hk;done)|skip
 rename_i c;simp only[eR]at hk;cases hcal:c.callee with
 | value f=>rw[hcal]at hk;cases hk
 | invoke x n=>rw[hcal]at hk;cases hk
 | builtin b=>rw[hcal]at hk;cases b<;>cases hk
section
variable{P:Program}{T:fm}(hT:fH P T){cfg:cL}{call:bg->FuncId->List AV->aB->Option (AV×aB)}(hcall:jH P cfg True call)(hc:b8 cfg call){C:bg}{ops:Array Oper}{S:Nat->St}(hR:nQ T cfg call C ops S)(hA:Br cfg ops S)
 {D0:Nat->Prop} {m0:Nat->bv} {w0:World} {E D:Nat->Prop} {m:Nat->bv} {a:Act} {w:World} {e:Nat} (h:DI cfg C ops S D0 m0 w0 E D m a w)
 (hdown:∀j,E j->ly ops E j) (he:e<ops.size) (hE:¬E e) (hw:ly ops E e)
include hR hc h he
omit hc in
theorem Qi(hc:b8 cfg call)(hall:∀i,jB cfg ops S E i e):dX cfg (zv C S D e) m C (S e).o w:=by
 have h0:=hR.a0 hc (k:=0) (k':=e) δ δ;refine⟨λi hi=>h.e0 i e δ hi.1 hi.2 (hall i),λi j hi hj hij hl hr=>h.inj i j e δ hi.1 hj.1 hi.2 hj.2 (hall i) (hall j) hij hl hr,λi hi=>hi.2,λg hg=>?_,λi hi=>?_,λi hi=>?_,hR.lo,hR.i0 hc e δ⟩
 . obtain⟨g1,g2,g3⟩:=h.d0 g hg;have:=hR.g0 g hg;exact⟨⟨g1,by omega⟩,g2,g3⟩
 . have:=hR.lo;exact⟨⟨(h.a0 i hi).1,by omega⟩,by rw[hR.d0 hc e δ hi];exact(h.a0 i hi).2⟩
 . rw[hR.le hc e δ]at hi;exact hR.k0 i hi
open Classical in
noncomputable def tM(cfg:cL)(C:bg)(ops:Array Oper)(S:Nat->St)(E:Nat->Prop)(e i:Nat):cD:=if jB cfg ops S E i e then get C (S e).o i else .b
omit hc in
theorem aes(hc:b8 cfg call){l:List cD}(hid:id<C.lo+(S e).o.n):get (qZ cfg (tM cfg C ops S E e) (C.lo+(S e).o.n)) (iF l ab4) id=tM cfg C ops S E e id:=by
 rw[Gr hid];by_cases hr:cfg.a0.n<=id
 . grind
 . rw[if_neg hr];have hcb:jB cfg ops S E id e:=λj hj hw=>absurd hw.2 hr;unfold tM;rw[if_pos hcb,hR.d0 hc e δ δ];exact((h.a0 id δ).2).symm
omit hc in
theorem OR(hc:b8 cfg call):dX cfg (zv C S D e) m (qZ cfg (tM cfg C ops S E e) (C.lo+(S e).o.n)) ab4 w:=by
 have h0:=hR.a0 hc (k:=0) (k':=e) δ δ;have hg:∀i,i<C.lo+(S e).o.n->get (qZ cfg (tM cfg C ops S E e) (C.lo+(S e).o.n)) ab4 i=tM cfg C ops S E e i:=λi hi=>aes (l:=[]) hR h he hc hi;have hlo:=hR.lo;refine⟨λi hi=>?_,λi j hi hj hij hl hr=>?_,λi hi=>hi.2,λg hgl=>?_,λi hi=>?_,λi hi=>(by cases hi),(by grind [qZ]),rfl⟩
 . rw[hg i hi.2];unfold tM;split
   . rename_i hcb;exact h.e0 i e δ hi.1 hi.2 hcb
   . trivial
 . rw[hg i hi.2]at hl;rw[hg j hj.2]at hr;unfold tM at hl hr;split at hl
   . rename_i hci;split at hr
     . rename_i hcj;exact h.inj i j e δ hi.1 hj.1 hi.2 hj.2 hci hcj hij hl hr
     . cases hr
   . cases hl
 . obtain⟨g1,g2,g3⟩:=h.d0 g hgl;have:=hR.g0 g hgl;exact⟨⟨g1,by omega⟩,g2,g3⟩
 . have hin:i<C.lo+(S e).o.n:=δ
   refine⟨⟨(h.a0 i hi).1,hin⟩,?_⟩;have hh:=Gr (cfg:=cfg) (f:=tM cfg C ops S E e) (l:=[]) hin;rw[if_neg δ]at hh;exact hh
include hT hcall hA hdown hE hw
open Classical in
theorem HO{Q:Exit->Act->World->Prop}{K:Act->World->Prop}(hK:∀D2 m2 a2 w2,DI cfg C ops S D0 m0 w0 (λj=>E j\/j=e) D2 m2 a2 w2->K a2 w2):wpOpIn (FR x) 0 P ops Q e K a w:=by
 obtain⟨op,hop,hstep⟩:=hR.b0 e he;have hdst:dK ops e=op.dst:=by simp[dK,hop]
 have ho:∀j,j<ops.size->∀t,t∈oP ops op->dK ops j=some t->j≠e->(E j↔j<e):=λj hj t ht hjt hne=>sS hdown hE hw hne (.inl (hA.c0 e op hop t ht j hjt hne));have hod:∀d,dK ops e=some d->∀j,j<ops.size->dK ops j=some d->j≠e->(E j↔j<e):=λd hd j hj hjd hne=>ho j hj d (by grind [oP]) hjd hne;have hct:∀t,t∈oP ops op->DY ops E t e:=λt ht j hj hjt=>by
  grind
 have hwanted:=Fp (m:=m) (ts:=(S e).ts) (a:=a) (ops:=ops) (oo:=op) λt ht=>(h.f0 t e (by omega) (hct t (by simp[oP,ht]))).1;unfold wpOpIn;simp only[hop];rw[hwanted];rcases hstep with⟨hwt,r,hr,hp,hbnd⟩|⟨hwt,hp⟩
 . rw[hwt,if_pos rfl];obtain⟨htn,hro,hdd⟩:=h_ hp;have hd:∀d,dK ops e=some d->d<(S 0).tn:=λd hd=>by rw[<-hR.tn e (by omega)];grind
   have hg:∀d,dK ops e=some d->(S (e+1)).ts.b0 d=r.1:=λd hd=>by grind [sH]
   have hfoot:du cfg ops S e=cX cfg (fj cfg.G (S e).ts) op.op:=by grind [du]
   let ρ:Operand->Option AV:=λx=>if x∈op.op.operands.toList then fj cfg.G (S e).ts x else none
   have hρe:∀x∈op.op.operands.toList,fj cfg.G (S e).ts x=ρ x:=λx hx=>(if_pos hx).symm;have hρ:mE (zv C S D e) m ρ a.eval:=by
    intro x v hx;have hxo:x∈op.op.operands.toList:=Classical.byContradiction λhn=>by grind
    simp only[ρ,if_pos hxo]at hx;have h0:=hR.a0 hc (k:=0) (k':=e) (by omega) (by omega);cases x with
    | tmp t=>
      cases hx;exact h.f0 t e (by omega) (hct t (by simp only[oP,List.mem_append,List.mem_filterMap];exact .inr ⟨_,hxo,rfl⟩))
    | const c=>obtain⟨h1,h2⟩:=tq (m:=m) hx;exact⟨h1.symm,ek h2⟩
    | global g=>
      simp only[fj,aA,ν,aU]at hx;obtain⟨hgl,rfl⟩:=hx;obtain⟨a1,a2,a3⟩:=h.d0 g hgl;refine⟨by grind [Act.eval,aj],λi hi=>?_⟩;simp only[aC,List.mem_singleton]at hi;subst hi;have:=hR.g0 g hgl;exact⟨⟨a1,by omega⟩,Nat.zero_le _⟩
    | func f=>cases hx;exact⟨by rfl,λi hi=>by grind [aC,bw]⟩
   rw[Dd hρe]at hr;rw[aeq hρe]at hfoot;have hbarall:∀j i,j<ops.size->Wr cfg ops S j i->j≠e->oH (eR op.op)=false->m_ (eR op.op)=false->(E j↔j<e):=by
    intro j i hj hwr hne hnf hnl;have:∃ids,du cfg ops S j=.b ids:=by
     have:=hwr.1;cases hf:du cfg ops S j with
     | b ids=>simp
     | c=>rw[hf]at this;cases this
     | a id=>rw[hf]at this;cases this
    obtain⟨ids,hids⟩:=this;rcases hA.a0 j ids hj hids e op hop hne with h1|h1|⟨h1,_⟩
    . grind
    . exact sS hdown hE hw hne (.inl h1)
    . grind
   have hself:∀i,jB cfg ops S E i e\/True:=λ_=>.inr trivial;by_cases hq:acu (eR op.op)=true
   ·
    have hfe:cN (du cfg ops S e)=[]:=by rw[hfoot];exact afs hq
    have hnw:∀i,¬Wr cfg ops S e i:=λi hwr=>by have:=hwr.1;rw[hfe]at this;cases this
    have hi:=OR hR h he hc;have hsame:=EE (C':=qZ cfg (tM cfg C ops S E e) (C.lo+(S e).o.n)) (o':=ab4) (call':=call) hq hr (by simp[qZ,ab4]) λhrd x hx v id hxv hn=>by
     have hb:id<C.lo+(S e).o.n:=(A2 (hρ x v hxv).2 hn).2;have hcb:jB cfg ops S E id e:=λj hj hwr=>by
      by_cases hne:j=e
      . grind
      . by_cases hld:m_ (eR op.op)=true
        . obtain⟨rid,hrid,hrall⟩:=IG (cfg:=cfg) hld hr;have hide:=hrall x hx v id hxv hn;have hf':du cfg ops S e=.a rid:=by rw[hfoot];exact hrid
          have:∃ids,du cfg ops S j=.b ids:=by
           have:=hwr.1;cases hf:du cfg ops S j with
           | b ids=>exact⟨ids,rfl⟩
           | c=>rw[hf]at this;cases this
           | a id=>rw[hf]at this;cases this
          obtain⟨ids,hids⟩:=this;rcases hA.a0 j ids hj hids e op hop hne with h1|h1|⟨_,h1⟩
          . rw[Io h1]at hrid;cases hrid
          . exact sS hdown hE hw hne (.inl h1)
          . have:=h1 rid hf';have h2:=hwr.1;rw[hids,hide]at h2;exact absurd h2 this
        . refine hbarall j id hj hwr hne ?_ (by simpa using hld);cases hkk:eR op.op<;>rw[hkk]at hrd<;>first|rfl|cases hrd
     refine(aes (l:=[]) hR h he hc hb).trans ?_;unfold tM;rw[if_pos hcb]
    obtain⟨l,hl,hr'⟩:=hsame;have hon:(S (e+1)).o=iF l (S e).o:=by rw[hro,hl]
    refine rH (r:=(r.1,iF l ab4)) hT hi hρ hcall acX hr' λD' m' w' hv hx _=>?_;have hlt:∀i,D' i->i<C.lo+(S (e+1)).o.n:=λi hi'=>by
     have:=hx.b0.lt i hi';rw[hon];simp only[qZ,iF,ab4]at this ⊢;omega
    have hnew:∀i,D' i->zv C S D e i\/C.lo+(S e).o.n<=i:=λi hi'=>by
     have:=hx.l0 i hi';simpa [qZ,ab4]using this
    have hnown:∀i,zv C S D e i->(dQ (qZ cfg (tM cfg C ops S E e) (C.lo+(S e).o.n)) ab4 i).isSome->False:=λi hi' hs=>by
     unfold dQ at hs;simp only[qZ]at hs;rw[jT (by have:=hi'.2;omega)]at hs;simp[ab4,fp]at hs
    have hgn:∀i,D' i->¬zv C S D e i->get (qZ cfg (tM cfg C ops S E e) (C.lo+(S e).o.n)) (iF l ab4) i=get C (S (e+1)).o i:=λi hi' hn=>by
     rw[hon];refine Eu (by simp[qZ,ab4]) ((hnew i hi').resolve_left hn) ?_;have:=hlt i hi';rw[hon]at this;simp only[iF]at this;omega
    obtain⟨D2,m2,hcv,hdi⟩:=DI.g0 hR hc h he hE hnw hod hd hx.g0 hx.a0 hnew hlt hv hg hx.os hx.j0 hx.c0 hx.i0
     ⟨λk hk=>hx.f0 k hk λi hi' hs=>(hnown i hi' hs).elim,λi hi' hn=>(hx.e0 i hi' hn).resolve_right λ⟨j,hj,hs,_⟩=>hnown j hj hs⟩
     (λi hi' hn=>by rw[<-hgn i hi' hn];exact hx.b0.a0 i hi')
     (λi j hi' hj' hni hnj hij hl' hr''=>by rw[<-hgn i hi' hni]at hl';rw[<-hgn j hj' hnj]at hr'';exact hx.b0.inj i j hi' hj' hij hl' hr'')
    rw[hcv,hdst]at hdi;exact hK D2 m2 _ _ hdi
   . have hq':acu (eR op.op)=false:=by simpa using hq
     have hnf:oH (eR op.op)=false:=by cases hk:eR op.op<;>rw[hk]at hq'<;>first|rfl|cases hq'
     have hnl:m_ (eR op.op)=false:=by cases hk:eR op.op<;>rw[hk]at hq'<;>first|rfl|cases hq'
     have hall:∀i,jB cfg ops S E i e:=λi j hj hwr=>by
      grind
     have hi:=Qi hR h he hc hall;cases hf:du cfg ops S e with
     | b ids=>
       have hbd:∀i,D i->i<C.lo+(S e).o.n:=λi hi'=>by
        rcases h.c0 i hi' with h5|⟨e',he',hl',h6,h7⟩
        . have:=hR.a0 hc (k:=0) (k':=e) (by omega) (by omega);omega
        . rcases Nat.lt_trichotomy e' e with hlt|heq|hgt
          . have:=hR.a0 hc (k:=e'+1) (k':=e) (by omega) (by omega);omega
          . grind
          . obtain⟨op',hop',hst'⟩:=hR.b0 e' hl';have hkeep:(oH (eR op'.op)\/m_ (eR op'.op)=true)->False:=λhk=>by
             have:(S (e'+1)).o=(S e').o:=by
              rcases hst' with⟨_,r',hr',hp',_⟩|⟨_,hp'⟩
              . rw[(h_ hp').2.1,Fg hk hr']
              . rw[(h_ hp').2.1]
             rw[this]at h7;omega
            rcases hA.a0 e ids he hf e' op' hop' (by omega)with h1|h1|⟨h1,_⟩
            . grind
            . have:=(sS hdown hE hw (j:=e') (by omega) (.inr h1)).1 he';omega
            . grind
       have hBD:zv C S D e=D:=funext λi=>propext ⟨And.left,λhh=>⟨hh,hbd i hh⟩⟩;rw[hBD]at hi hρ;refine rH hT hi hρ hcall acX hr λD' m' w' hv hx _=>?_;rw[<-hro]at hx;have:=DI.h0 hR hc h he hE hod hd hbd (λj i hj hwr hne=>hbarall j i hj hwr hne hnf hnl) (λi hwr=>Fi hρ (by have:=hwr.1;rw[hfoot]at this;exact this)) hv hg hx;rw[hdst]at this;exact hK D' m' _ _ this
     | c=>
       have hkc:eR op.op=.a:=Classical.byContradiction λhk=>by
        obtain⟨ids,hids⟩:=Cx (cfg:=cfg) (ρ:=ρ) hq' hk;rw[hfoot,hids]at hf;cases hf
       have hfe:cN (cX cfg ρ op.op)=[]:=by rw[<-hfoot,hf];rfl
       have hnw:∀i,¬Wr cfg ops S e i:=λi hwr=>by have:=hwr.1;rw[hf]at this;cases this
       refine rH hT hi hρ hcall acX hr λD' m' w' hv hx hmu=>?_;rw[<-hro]at hx;obtain⟨D2,m2,hcv,hdi⟩:=DI.g0 hR hc h he hE hnw hod hd hx.g0 hx.a0 hx.l0 hx.b0.lt hv hg hx.os hx.j0 hx.c0 hx.i0 (hmu trivial hkc hfe)
        (λi hi' _=>hx.b0.a0 i hi') (λi j hi' hj' _ _ hij hl' hr''=>hx.b0.inj i j hi' hj' hij hl' hr'')
       rw[hcv,hdst]at hdi;exact hK D2 m2 _ _ hdi
     | a id=>
       have hkc:eR op.op=.a:=Classical.byContradiction λhk=>by
        obtain⟨ids,hids⟩:=Cx (cfg:=cfg) (ρ:=ρ) hq' hk;rw[hfoot,hids]at hf;cases hf
       have hfe:cN (cX cfg ρ op.op)=[]:=by rw[<-hfoot,hf];rfl
       have hnw:∀i,¬Wr cfg ops S e i:=λi hwr=>by have:=hwr.1;rw[hf]at this;cases this
       refine rH hT hi hρ hcall acX hr λD' m' w' hv hx hmu=>?_;rw[<-hro]at hx;obtain⟨D2,m2,hcv,hdi⟩:=DI.g0 hR hc h he hE hnw hod hd hx.g0 hx.a0 hx.l0 hx.b0.lt hv hg hx.os hx.j0 hx.c0 hx.i0 (hmu trivial hkc hfe)
        (λi hi' _=>hx.b0.a0 i hi') (λi j hi' hj' _ _ hij hl' hr''=>hx.b0.inj i j hi' hj' hij hl' hr'')
       rw[hcv,hdst]at hdi;exact hK D2 m2 _ _ hdi
 . rw[hwt,if_neg (by simp)];refine⟨λ_ _=>trivial,?_⟩;obtain⟨htn,hro,hdd⟩:=h_ hp;have hd:∀d,dK ops e=some d->d<(S 0).tn:=λd hd=>by rw[<-hR.tn e (by omega)];exact hdd d (by rw[<-hdst];exact hd)
   have hg:∀d,dK ops e=some d->(S (e+1)).ts.b0 d=bt:=λd hd=>by rw[sH hp,if_pos (by rw[<-hdst];exact hd)]
   have hf:du cfg ops S e=.c:=by simp only[du,hop,hwt,cond_false]
   have hnw:∀i,¬Wr cfg ops S e i:=λi hwr=>by have:=hwr.1;rw[hf]at this;cases this
   obtain⟨D2,m2,hcv,hdi⟩:=DI.g0 (D':=zv C S D e) (m':=m) (w':=w) (v:=bt) hR hc h he hE hnw hod hd (λ_ hi=>hi) (λ_ _=>rfl) (λ_ hi=>.inl hi) (λi hi=>by rw[hro];exact hi.2) iy hg rfl rfl rfl (ξ _)
    ⟨λ_ _=>rfl,λi hi hn=>absurd hi hn⟩ (λi hi hn=>absurd hi hn) (λi j hi _ hn=>absurd hi hn)
   rw[hcv,hdst,td]at hdi;exact hK D2 m2 _ _ hdi
end
theorem Ai{p q:Nat->Bool}(h:∀i,q i->p i):∀l:List Nat,l.countP q<=l.countP p
 | []=>by simp
 | x::l=>by
   have:=Ai h l;grind
theorem Ax{p q:Nat->Bool}(h:∀i,q i->p i){e:Nat}(hp:p e)(hq:q e=false):∀{l:List Nat},e∈l->l.countP q<l.countP p
 | [],he=>by grind
 | x::l,he=>by
   rw[List.countP_cons,List.countP_cons];rcases List.mem_cons.1 he with rfl|he
   . have:=Ai h l;grind
   . have:=Ax h hp hq he;grind
def rt(listed:Array Bool)(j:Nat):Prop:=listed.getD j false=true
theorem pJ(listed:Array Bool)(h:i<listed.size):listed.getD i true=listed.getD i false:=η
theorem FV{listed:Array Bool}(h:i<listed.size)(j:Nat):rt (listed.setIfInBounds i true) j↔rt listed j\/j=i:=by
 grind [rt,Array.getInternal_eq_getElem]
theorem tt{listed:Array Bool}(hs:listed.size=ops.size):i∈Region.ready .any ops listed↔i<ops.size/\¬rt listed i/\ly ops (rt listed) i:=by
 unfold Region.ready;rw[List.mem_filter,List.mem_range];constructor
 . rintro⟨hi,h⟩;rw[pJ listed δ]at h;have hop:ops[i]? = some ops[i]:=θ
   simp only[hop,Option.map_some,Option.getD_some,Bool.and_eq_true,Bool.not_eq_true']at h;refine⟨hi,by grind [rt],λo ho e he hb=>?_⟩;rw[hop]at ho;cases ho;have:=h.2;rw[<-Array.all_toList,List.all_eq_true]at this;grind [rt]
 . rintro⟨hi,h1,h2⟩;refine⟨hi,?_⟩;have hop:ops[i]? = some ops[i]:=θ
   rw[pJ listed δ];simp only[hop,Option.map_some,Option.getD_some,Bool.and_eq_true,Bool.not_eq_true'];refine⟨by grind [rt],?_⟩;rw[<-Array.all_toList,List.all_eq_true];intro e he;cases hb:Region.binds .any e with
   | false=>simp
   | true=>have:=h2 _ hop e he hb;grind [rt]
section
variable{P:Program}{T:fm}(hT:fH P T){cfg:cL}{call:bg->FuncId->List AV->aB->Option (AV×aB)}(hcall:jH P cfg True call)(hc:b8 cfg call){C:bg}{ops:Array Oper}{S:Nat->St}(hR:nQ T cfg call C ops S)(hA:Br cfg ops S)
 {D0:Nat->Prop} {m0:Nat->bv} {w0:World}
include hT hcall hc hR hA
theorem Ss{Q:Exit->Act->World->Prop}(hq:∀D m a w,DI cfg C ops S D0 m0 w0 (λj=>j<ops.size) D m a w->Q .normal a w):∀(fuel:Nat) (listed:Array Bool),listed.size=ops.size->((List.range ops.size).countP λi=>!listed.getD i true)<=fuel->
 (∀j,rt listed j->ly ops (rt listed) j)->∀{D:Nat->Prop} {m:Nat->bv} {a:Act} {w:World},DI cfg C ops S D0 m0 w0 (rt listed) D m a w->wpAnyIn (FR x) 0 P .any ops Q fuel listed a w:=by
 have fin:∀(listed:Array Bool),listed.size=ops.size->Region.ready .any ops listed=[]->∀{D:Nat->Prop} {m:Nat->bv} {a:Act} {w:World},DI cfg C ops S D0 m0 w0 (rt listed) D m a w->Q .normal a w:=by
  intro listed hs hr D m a w h;have hall:∀j,j<ops.size->rt listed j:=by
   intro j;induction j using Nat.strongRecOn with
   | ind j ih=>
     intro hj;refine Classical.byContradiction λhn=>?_;have:j∈Region.ready .any ops listed:=(tt hs).2 ⟨hj,hn,λo ho e he hb=>by
      have:=hA.b0 j o ho e he hb;exact ih e.on this δ⟩
     rw[hr]at this;cases this
  have heq:rt listed=λj=>j<ops.size:=funext λj=>propext ⟨λhh=>(by
   refine Classical.byContradiction λhn=>?_;unfold rt at hh;simp only[Array.getD]at hh;rw[dif_neg δ]at hh;cases hh),hall j⟩
  rw[heq]at h;exact hq D m a w h
 intro fuel;induction fuel with
 | zero=>
   intro listed hs hcnt hd D m a w h;have hr:Region.ready .any ops listed=[]:=by
    rw[List.eq_nil_iff_forall_not_mem];intro i hi;obtain⟨h1,h2,_⟩:=(tt hs).1 hi;have:0<(List.range ops.size).countP λi=>!listed.getD i true:=List.countP_pos_iff.2 ⟨i,List.mem_range.2 h1,by rw[pJ listed δ];unfold rt at h2;simpa using h2⟩;omega
   exact⟨hr,fin listed hs hr h⟩
 | succ fuel ih=>
   intro listed hs hcnt hd D m a w h;refine⟨λhr=>fin listed hs hr h,λi hi=>?_⟩;obtain⟨h1,h2,h3⟩:=(tt hs).1 hi;have hset:rt (listed.setIfInBounds i true)=λj=>rt listed j\/j=i:=funext λj=>propext (FV δ j);refine HO hT hcall hc hR hA h hd h1 h2 h3 λD2 m2 a2 w2 h'=>?_;refine ih (listed.setIfInBounds i true) (by simp[hs]) ?_ ?_ (by rw[hset];exact h')
   . have hlt:(List.range ops.size).countP (λj=>!(listed.setIfInBounds i true).getD j true)<(List.range ops.size).countP (λj=>!listed.getD j true):=by
      refine Ax (e:=i) (λj hj=>?_) ?_ ?_ (List.mem_range.2 h1)
      . by_cases hjs:j<listed.size
        . rw[pJ _ (by simpa using hjs)]at hj;rw[pJ _ hjs];have:¬rt (listed.setIfInBounds i true) j:=by unfold rt;simpa using hj
          rw[FV δ]at this;have:¬rt listed j:=λhh=>this (.inl hh);unfold rt at this;simpa using this
        . grind
      . rw[pJ _ δ];unfold rt at h2;simpa using h2
      . simp_all
     omega
   . intro j hj o ho e he hb;rw[hset]at hj ⊢;rcases hj with hj|rfl
     . exact .inl (hd j hj o ho e he hb)
     . exact .inl (h3 o ho e he hb)
end
section
variable{P:Program}{T:fm}(hT:fH P T)(hm:P.follows .mixedOrders){cfg:cL}{C:bg}{call:bg->FuncId->List AV->aB->Option (AV×aB)}(hcall:jH P cfg True call)(hc:b8 cfg call)
include hT hm hcall hc
theorem ND{rnd:bg->Nat->List AV->aB->Option (AV×aB)}{callI:bg->FuncId->List AV->aB->Option (AV×aB)}{Q:Exit->Act->World->Prop}{D:Nat->Prop}{m:Nat->bv}{w:World}(hi:dX cfg D m C st.o w)(ht:TR D m st a)(h:kg T cfg call rnd C callI ops true st=some st')
 (hq:∀D' m' a' w',TR D' m' st' a'->dw cfg C D m st.o w D' m' st'.o w'->Q .normal a' w'):(Code.region id ops true).wpIn (FR x) 0 P Q a w:=by
 simp only[kg,cond_true,ag,aA,ν]at h;obtain⟨acc,hs,r,hd,hap,rfl⟩:=h;obtain⟨S,h0,hn,hst,_⟩:=Al θ hd;rw[Nat.zero_add]at hn;have hlen:ops.toList.length=ops.size:=θ
 rw[hlen]at hn;have hst':∀k,k<ops.size->z6 T cfg call C ops S k/\(k,du cfg ops S k)∈r.2:=λk hk=>hst k (Nat.zero_le _) δ;have hR:nQ T cfg call C ops S:=⟨λk hk=>(hst' k hk).1,by rw[h0];exact hi.e0,by rw[h0];exact hi.le,hi.lo,λg hg=>by rw[h0];exact hi.lt g (hi.c0 g hg).1⟩;have hA:Br cfg ops S:=agn hs (λk hk=>(hst' k hk).2) hap;refine wpIn_region_any hm (Ss hT hcall hc hR hA (D0:=D) (m0:=m) (w0:=w) (λD' m' a' w' hdi=>?_) ops.size _ θ ?_ ?_ (D:=D) (m:=m) ?_)
 . have hbd:∀i,D' i->i<C.lo+(S ops.size).o.n:=λi hi'=>by
    rcases hdi.c0 i hi' with h5|⟨e,_,he,_,h7⟩
    . have:=hR.a0 hc (k:=0) (k':=ops.size) δ δ;omega
    . have:=hR.a0 hc (k:=e+1) (k':=ops.size) δ δ;omega
   have hall:∀i,jB cfg ops S (λj=>j<ops.size) i ops.size:=λi j hj _=>⟨λ_=>hj,λ_=>hj⟩;have hallt:∀t,DY ops (λj=>j<ops.size) t ops.size:=λi j hj _=>⟨λ_=>hj,λ_=>hj⟩;have htr:TR D' m' (S ops.size) a':=⟨by rw[hdi.sz,hR.tn _ (ξ _)],λt=>(hdi.f0 t _ (ξ _) (hallt t)).1,λt=>(hdi.f0 t _ (ξ _) (hallt t)).2.a0 (λi hi'=>hi'.1) λ_ _=>rfl,by rw[hdi.b0,(hR.ds _ (ξ _)).1,iK (D:=D) (by rw[h0];exact ht.e0) hdi.mv.c0],λd hd=>hdi.mv.e0 d (by rw[(hR.ds _ (ξ _)).1,h0]at hd;exact ht.e0 d hd),λi hi'=>hdi.mv.e0 i (by rw[(hR.ds _ (ξ _)).2,h0]at hi';exact ht.f0 i hi')⟩;have hinv:dX cfg D' m' C (S ops.size).o w':=by
    refine⟨λi hi'=>(hdi.e0 i _ (ξ _) hi' (hbd i hi') (hall i)).b0 (λj hj=>hj.1) λ_ _=>rfl,λi j hi' hj' hij hl hr=>hdi.inj i j _ (ξ _) hi' hj' (hbd i hi') (hbd j hj') (hall i) (hall j) hij hl hr,hbd,hdi.d0,λi hi'=>?_,λi hi'=>?_,hR.lo,hR.i0 hc _ (ξ _)⟩
    . exact⟨(hdi.a0 i hi').1,by rw[hR.d0 hc _ (ξ _) hi'];exact(hdi.a0 i hi').2⟩
    . rw[hR.le hc _ (ξ _)]at hi';exact hR.k0 i hi'
   rw[hn]at htr hinv;have hmv:=hdi.mv;rw[h0]at hmv;have hgrow:=hR.a0 hc (k:=0) (k':=ops.size) δ δ;have hle:=hR.le hc ops.size (ξ _);rw[h0,hn]at hgrow hle;exact hq D' m' a' w' htr ⟨hinv,hmv.e0,hmv.c0,hmv.h0,hgrow,hmv.os,hmv.g0,hmv.d0,hmv.a0,hmv.f0,hle,hmv.b0⟩
 . grind [List.countP_le_length]
 . simp[rt,Array.getD]
 . have hno:∀j,¬rt (Array.replicate ops.size false) j:=λj hj=>by
    simp_all [rt,Array.getD]
   have cT:∀t k,k<=ops.size->DY ops (rt (Array.replicate ops.size false)) t k->(S k).ts.b0 t=st.ts.b0 t:=λt k hk hct=>by
    rw[<-h0];exact hR.m0 δ hk λj _ hj hjt=>hno j ((hct j δ hjt).2 hj)
   have cB:∀i k,k<=ops.size->D i->jB cfg ops S (rt (Array.replicate ops.size false)) i k->get C (S k).o i=get C st.o i:=λi k hk hdi hcb=>by
    have:=hi.lt i hdi;have:=hR.c0 hc (k:=0) (k':=k) (i:=i) δ hk η λj _ hj hw=>hno j ((hcb j δ hw).2 hj);grind
   have bel:∀k,k<=ops.size->∀i,D i->zv C S D k i:=λk hk i hdi=>⟨hdi,by
    have:=hi.lt i hdi;have h1:=hR.a0 hc (k:=0) (k':=k) δ hk;grind⟩
   refine{ sz:=by rw[h0];exact ht.b0,b0:=by rw[h0];exact ht.a0,f0:=λt k hk hct=>?_,e0:=λi k hk hdi _ hcb=>?_,inj:=λi j k hk hdi hdj _ _ hci hcj hij hl hr=>?_,c0:=λi hdi=>.inl (by rw[h0];exact hi.lt i hdi),wr:=λj i hj=>absurd hj (hno j),d0:=hi.c0,a0:=λi hid=>by rw[h0];exact hi.b0 i hid,mv:=?_ }
   . rw[cT t k hk hct];exact⟨ht.c0 t,(ht.d0 t).a0 (bel k hk) λ_ _=>rfl⟩
   . rw[cB i k hk hdi hcb];exact(hi.a0 i hdi).b0 (bel k hk) λ_ _=>rfl
   . rw[cB i k hk hdi hci]at hl;rw[cB j k hk hdj hcj]at hr;exact hi.inj i j hdi hdj hij hl hr
   . exact⟨λ_ hh=>hh,λ_ _=>rfl,λ_ hh=>.inl hh,rfl,rfl,rfl,ξ _,λ_ _ _=>rfl,λi hh hn=>absurd hh hn⟩
theorem Ik{rnd:bg->Nat->List AV->aB->Option (AV×aB)}{callI:bg->FuncId->List AV->aB->Option (AV×aB)}(hcI:jH P cfg False callI)(hrI:CN P cfg False rnd){Q:Exit->Act->World->Prop}{D:Nat->Prop}{m:Nat->bv}{w:World}(hi:dX cfg D m C st.o w)(ht:TR D m st a)(h:kg T cfg call rnd C callI ops draw st=some st')
 (hq:∀D' m' a' w',TR D' m' st' a'->dw cfg C D m st.o w D' m' st'.o w'->Q .normal a' w'):(Code.region id ops draw).wpIn (FR x) 0 P Q a w:=by
 cases draw with
 | true=>grind [ND]
 | false=>
   simp only[kg,cond_false]at h;refine wpIn_region ?_;have:=FA hT hcI hrI (Q:=Q) (x:=x) ops.toList 0 θ hi ht h hq;grind [List.range_eq_range']
end
def grown(o1 o:aB):aB:=⟨o1.n+o.n,o1.os++o.os,o.le⟩
theorem ta{o:aB}(hl:o1.os.length=o1.n)(hi:i<C.lo+o.n):get C (grown o1 o) i=get C o i:=by
 grind [get,gB,grown,aB.at,jT]
theorem AE{o:aB}(hl:o1.os.length=o1.n)(h1:C.lo+o.n<=i)(h2:i<C.lo+o.n+o1.n):get C (grown o1 o) i=o1.at (i-(C.lo+o.n)):=by
 grind [get,gB,eK,grown,aB.at]
theorem fh.e0{o:aB}{ids:List Nat}(hl:o.os.length=o.n)(hl1:o1.os.length=o1.n):fh C o (grown o1 o) ids:=
 ⟨by simp[Ev.grown],rfl,by grind [Ev.grown],λ_ i hi _=>ta hl1 hi⟩
theorem xp{C:bg}{ids:List Nat}:∀{l:List (Nat×cD)} {o:aB},o.os.length=o.n->(∀p∈l,p.1∈ids)->fh C o (p8 C o l) ids
 | [],o,hl,_=>.a0 hl
 | p::l,o,hl,h=>by
   rw[p8];exact(fh.d0 hl (h p List.mem_cons_self)).f0 (xp (aa4 hl) λq hq=>h q (List.mem_cons_of_mem _ hq))
theorem jg{C:bg}{o:aB}:∀{ids:List Nat} {p:Nat×cD},p∈gy C o ids->p.1∈ids/\dQ C o p.1=some p.2
 | [],p,h=>by cases h
 | id::ids,p,h=>by
   rw[gy]at h;have rec':p∈gy C o ids->p.1∈id::ids/\dQ C o p.1=some p.2:=λh=>⟨List.mem_cons_of_mem _ (jg h).1,(jg h).2⟩;grind
theorem aaz{C:bg}{o:aB}:∀{ids:List Nat},((gy C o ids).map (·.1)).Nodup
 | []=>by simp[gy]
 | id::ids=>by
   rw[gy];cases hm:vH id ids with
   | true=>rw[cond_true];exact aaz
   | false=>
     rw[cond_false];cases hx:dQ C o id with
     | none=>exact aaz
     | some x=>
       simp only[List.map_cons,List.nodup_cons];refine⟨λhin=>?_,aaz⟩;obtain⟨p,hp,e⟩:=List.mem_map.1 hin;grind [jg,acp]
def LL(o o':aB):Prop:=o.os.length=o.n->o'.os.length=o'.n/\o'.le.map (·.1)=o.le.map (·.1)
theorem LL.b0(o:aB):LL o o:=λh=>⟨h,rfl⟩
theorem LL.a0{o o2:aB}(h:LL o o1)(k:LL o1 o2):LL o o2:=λhl=>⟨(k (h hl).1).1,(k (h hl).1).2.trans (h hl).2⟩
theorem LL.d0{o:aB}{x:cD}:LL o (kV C o id x):=λh=>⟨aa4 h,qM⟩
theorem LL.e0{o:aB}{x:cD}:LL o (o.a0 x):=λh=>⟨by simp[aB.a0,h],rfl⟩
theorem LL.c0{o o':aB}{ids:List Nat}(h:o.os.length=o.n->fh C o o' ids):LL o o':=λhl=>⟨(h hl).h0,(h hl).le⟩
def mQ(code:bg->Code->St->Option (AX×St)):Prop:=∀C c st r,code C c st=some r->LL st.o r.2.o/\r.2.ro=st.ro
def Bz(call:bg->FuncId->List AV->aB->Option (AV×aB)):Prop:=∀C f args o r,call C f args o=some r->LL o r.2
def Gk(rnd:bg->Nat->List AV->aB->Option (AV×aB)):Prop:=∀C id args o r,rnd C id args o=some r->LL o r.2
theorem AI{C:bg}:∀{ds:List Nat} {o o':aB},qQ C o ds=some o'->LL o o'
 | [],o,o',h=>by cases h;exact .b0 o
 | d::ds,o,o',h=>by
   unfold qQ at h;split at h
   . exact LL.d0.a0 (AI h)
   grind
section
variable{T:fm}{cfg:cL}{code:bg->Code->St->Option (AX×St)}
theorem vM(h:lI T code C fn c args o0=some r) :
 args.length<=1000/\∃x o vs,code C c (jS fn args o0)=some x/\(∀id,x.1≠.b id)/\qQ C x.2.o x.2.ds=some o/\DK T C ⟨x.2.ts,x.2.tn,o,[],none⟩ fn.results.toList=some vs/\r=(w_ vs,o):=by
 grind [lI,aA,ag,eK,wj]
theorem abs(hll:mQ code)(h:lI T code C fn c args o0=some r):LL o0 r.2:=by
 obtain⟨_,x,o,vs,hx,_,hm,_,rfl⟩:=vM h;exact(hll _ _ _ _ hx).1.a0 (AI hm)
theorem yx(hll:mQ code){o:aB}{ids:List Nat}(h:A9 T code C fn c args o (gy C o ids)=some r)(hl:o.os.length=o.n):fh C o r.2 ids:=by
 simp only[A9,ag,ν]at h;obtain⟨r1,he,rfl⟩:=h;obtain⟨h1,h2⟩:=abs hll he rfl;have hg:fh C o (grown r1.2 o) ids:=.e0 hl h1;unfold Cg;split
 . cases rD (C.lo+o.n) 20 r1.1 with
   | true=>exact .a0 hl
   | false=>exact hg
 . refine hg.f0 (xp hg.h0 λp hp=>?_);have:p.1∈(gy C o ids).map (·.1):=by
    grind
   obtain⟨q,hq,e⟩:=List.mem_map.1 this;rw[<-e];exact(jg hq).1
theorem yH(horc:b8 cfg λC f args o=>cfg.c0 f C args o)(hll:mQ code):b8 cfg (aaB T cfg false code):=by
 intro C f args o r h hl;unfold aaB at h;cases ho:cfg.c0 f C args o with
 | some r'=>
   rw[ho]at h;cases h;exact horc C f args o r ho hl
 | none=>
   rw[ho]at h;simp only[D6,ag]at h;obtain⟨fc,_,h⟩:=h;cases hb:(cfg.d0 f&&bc cfg.a0.n args)with
   | true=>
     simp only[hb,cond_true,ag,ν]at h;obtain⟨v,_,rfl⟩:=h;exact .a0 hl
   | false=>
     grind [DZ,yx]
theorem Jz{inl:Bool}(horc:b8 cfg λC f args o=>cfg.c0 f C args o)(hll:mQ code):Bz (aaB T cfg inl code):=by
 intro C f args o r h;unfold aaB at h;cases ho:cfg.c0 f C args o with
 | some r'=>
   rw[ho]at h;cases h;exact .c0 λhl=>horc C f args o r ho hl
 | none=>
   rw[ho]at h;simp only[D6,ag]at h;obtain⟨fc,_,h⟩:=h;cases hb:(cfg.d0 f&&bc cfg.a0.n args)with
   | true=>
     simp only[hb,cond_true,ag,ν]at h;obtain⟨v,_,rfl⟩:=h;exact .b0 _
   | false=>
     simp only[hb,cond_false,DZ]at h;cases hy:(inl&&Dx args)with
     | true=>grind [abs]
     | false=>rw[hy,cond_false]at h;exact .c0 λhl=>yx hll h hl
theorem Jr(cf:cL){call:bg->FuncId->List AV->aB->Option (AV×aB)}(hc:Bz call){rnd:bg->Nat->List AV->aB->Option (AV×aB)}(hr:Gk rnd){ρ:Operand->Option AV}{o:aB}(h:gQ T call rnd C ρ o op=some r):LL o r.2:=by
 have other:gQ T (λ_ _ _ _=>none) tP C ρ o op=some r->LL o r.2:=λh'=>.c0 λhl=>qT (cfg:=cf) (λC f args o r h=>by grind) h' hl;cases op with
 | call c=>
   unfold gQ sQ at h;unfold gQ sQ at other;cases hcal:c.callee with
   | value f=>
     simp only[hcal,ag]at h;obtain⟨fv,hf,vs,hvs,h⟩:=h;cases fv<;>simp only[G_,reduceCtorEq]at h
     . exact hc _ _ _ _ _ h
     . exact hr _ _ _ _ _ h
   | builtin b=>grind
   | invoke x n=>grind
 | _=>exact other h
theorem BT{call:bg->FuncId->List AV->aB->Option (AV×aB)}(hc:Bz call){rnd:bg->Nat->List AV->aB->Option (AV×aB)}(hr:Gk rnd){C:bg}{ops:Array Oper}:∀{l:List Oper} {st st':St},CJ T cfg call rnd C ops l st=some st'->LL st.o st'.o/\st'.ro=st.ro
 | [],st,st',h=>by cases h;exact⟨.b0 _,rfl⟩
 | oo::rest,st,st',h=>by
   simp only[CJ,ag]at h;obtain⟨st1,hs,h⟩:=h;cases hw:ll ops st.ts oo.guard with
   | true=>
     simp only[hw,cond_true,ag]at hs;obtain⟨r,hr',hp⟩:=hs;have hf:=Jr cfg hc hr hr';rw[<-(h_ hp).2.1]at hf;obtain⟨a,b⟩:=BT hc hr h;exact⟨hf.a0 a,b.trans (o9 hp).2⟩
   | false=>
     simp only[hw,cond_false]at hs;have e:=(h_ hs).2.1;obtain⟨a,b⟩:=BT hc hr h;rw[e]at a;exact⟨a,b.trans (o9 hs).2⟩
theorem yP{call:bg->FuncId->List AV->aB->Option (AV×aB)}(hc:b8 cfg call){C:bg}{ops:Array Oper}:∀{l:List Oper} {i:Nat} {st:St} {log:List (Nat×gD)} {r:St×List (Nat×gD)},qo T cfg call C ops i l st log=some r->LL st.o r.1.o/\r.1.ro=st.ro
 | [],i,st,log,r,h=>by cases h;exact⟨.b0 _,rfl⟩
 | oo::rest,i,st,log,r,h=>by
   unfold qo at h;cases hw:ll ops st.ts oo.guard with
   | true=>
     simp only[hw,cond_true,ag,aA]at h;obtain⟨q,hr,st1,hp,_,h⟩:=h;have hf:LL st.o q.2:=.c0 λhl=>qT hc hr hl;rw[<-(h_ hp).2.1]at hf;obtain⟨a,b⟩:=yP hc h;exact⟨hf.a0 a,b.trans (o9 hp).2⟩
   | false=>
     simp only[hw,cond_false,ag]at h;obtain⟨st1,hs,h⟩:=h;have e:=(h_ hs).2.1;obtain⟨a,b⟩:=yP hc h;rw[e]at a;exact⟨a,b.trans (o9 hs).2⟩
theorem EJ{call callI:bg->FuncId->List AV->aB->Option (AV×aB)}(hc:b8 cfg call)(hcI:Bz callI){rnd:bg->Nat->List AV->aB->Option (AV×aB)}(hr:Gk rnd)(h:kg T cfg call rnd C callI ops draw st=some st'):LL st.o st'.o/\st'.ro=st.ro:=by
 cases draw with
 | true=>
   simp only[kg,cond_true,ag,aA,ν]at h;obtain⟨acc,hs,r,hd,hap,rfl⟩:=h;exact yP hc hd
 | false=>exact BT hcI hr h
theorem im{o:aB}{r:AK}(h:qw C o id=some r):dQ C o id=some (.c r):=by
 grind [qw]
theorem H5(hll:mQ code):Gk (qJ code):=by
 intro C id args o r h;simp only[qJ,ag]at h;obtain⟨q,_,ts,_,x,hx,h⟩:=h;simp only[oO,aA,ag]at h;obtain⟨_,q1,_,_,x2,hx2,h⟩:=h;simp only[u_,ag,ν]at h;obtain⟨q2,_,rfl⟩:=h;exact(((hll _ _ _ _ hx).1.a0 LL.d0).a0 (hll _ _ _ _ hx2).1).a0 LL.d0
theorem Gp{f:St->Option (AX×St)}{x r:AX×St}(h:v_ f x=some r)(hx:LL st.o x.2.o/\x.2.ro=st.ro)(hf:∀st r,f st=some r->LL st.o r.2.o/\r.2.ro=st.ro) :
 LL st.o r.2.o/\r.2.ro=st.ro:=by
 unfold v_ at h;split at h
 . obtain⟨a,b⟩:=hf _ _ h;exact⟨hx.1.a0 a,b.trans hx.2⟩
 grind
theorem px(horc:b8 cfg λC f args o=>cfg.c0 f C args o):∀n,mQ (eZ T cfg n)
 | 0,C,c,st,r,h=>by cases h
 | n+1,C,c,st,r,h=>by
   have ih:=px horc n;unfold eZ at h;cases c<;>simp only[fN]at h
   case skip=>cases h;exact⟨.b0 _,rfl⟩
   case label=>cases h;exact⟨.b0 _,rfl⟩
   case seq a b=>
    simp only[Nk,ag]at h;obtain⟨x,hx,h⟩:=h;exact Gp h (ih _ _ _ _ hx) λst r=>ih _ _ st r
   case cond c a b=>
    simp only[Ho,ag]at h;obtain⟨v,hv,h⟩:=h;unfold Kl at h;split at h
    . exact ih _ _ _ _ h
    . exact ih _ _ _ _ h
    grind
   case block id b=>
    simp only[Bq,ag,ν]at h;obtain⟨x,hx,rfl⟩:=h;have:=ih _ _ _ _ hx;grind [lQ]
   case loop b=>
    simp only[adD,ag]at h;obtain⟨x,hx,h⟩:=h;exact Gp h (ih _ _ _ _ hx) λst r=>ih _ _ st r
   case scope b=>exact ih _ _ _ _ h
   case exit=>cases h;exact⟨.b0 _,rfl⟩
   case ret=>cases h;exact⟨.b0 _,rfl⟩
   case region id ops draw=>
    grind [W3,ag,EJ,yH,Jz,H5]
   case rangeFunc g ps assign body=>
    simp only[Bj,ag]at h;obtain⟨gv,_,e,he,x,hx,h⟩:=h;simp only[xX,ag,aA,ν]at h;obtain⟨q,_,_,ax,_,rfl⟩:=h;have h1:LL st.o e.2.1:=by
     unfold aaS at he;split at he
     . grind [LL.e0]
     . simp only[ag,ν]at he;obtain⟨_,_,rfl⟩:=he;exact .b0 _
    have h2:LL (e.2.1.a0 (.c ⟨.ready,none,st.ts,st.tn,ps,assign,body,e.1⟩)) x.2:=by
     cases gv<;>simp only[yv,reduceCtorEq]at hx;grind [ag,abs]
    exact⟨((h1.a0 LL.e0).a0 h2).a0 LL.d0,rfl⟩
   all_goals cases h
end
end Go.Ev
