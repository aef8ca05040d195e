import Derived.Test.YtoghlpcacfnjbaaGreatDoorP08
set_option linter.all false
set_option maxRecDepth 100000
set_option maxHeartbeats 4000000
namespace Go.Ev
open Go Go.RowKit
variable{m:Nat->bq}{l:bq}{x:aE}{o o':aC}{id:Nat}
theorem cS.join{D1 D2:Nat->Prop}{b b':Option Obj}(h1:cS D1 m l x b)(h2:cS D2 m l x b'):cS D1 m l x b':=by
 cases x with
 | dead=>trivial
 | cells cs rw g=>
   obtain⟨c,e,fz,_,hc⟩:=h1;obtain⟨c',e',fz',hb,hc'⟩:=h2;exact⟨c',e',fz',hb,hc'.at',hc.okc,hc'.free,hc'.grow⟩
 | map es=>
   obtain⟨_,_,_,_,h3⟩:=h1;obtain⟨en,ck,hb,h4,_⟩:=h2;exact⟨en,ck,hb,h4,h3⟩
 | siter s pos=>exact h2
 | loop r=>
   obtain⟨_,_,_,h3⟩:=h1;obtain⟨fn,tmps,hb,h4⟩:=h2;exact⟨fn,tmps,hb,h4.size,h4.at',h3.okt,h3.defs⟩
 | defs=>exact h2
theorem cS.in_heap{D:Nat->Prop}{w:World}(h:cS D m l x w.heap[l.blk]?)(hl:nQ x):l.blk<w.heap.size:=by
 cases hb:w.heap[l.blk]? with
 | some b=>exact(Array.getElem?_eq_some_iff.1 hb).1
 | none=>
   rw[hb]at h;cases x with
   | dead=>cases hl
   | cells cs rw g=>obtain⟨_,_,_,e,_⟩:=h;cases e
   | map es=>obtain⟨_,_,e,_⟩:=h;cases e
   | siter s p=>cases h.1
   | loop r=>obtain⟨_,_,e,_⟩:=h;cases e
   | defs=>cases h
structure Mv(C:bg)(D:Nat->Prop)(m:Nat->bq)(o:aC)(w:World)(D':Nat->Prop)(m':Nat->bq)(w':World):Prop where
 sub:∀i,D i->D' i
 same:∀i,D i->m' i=m i
 new:∀i,D' i->D i\/C.lo+o.n<=i
 os:w'.os=w.os
 tape:w'.tape=w.tape
 output:w'.output=w.output
 size:w.heap.size<=w'.heap.size
 frame:∀k,k<w.heap.size->(∀i,D i->(dW C o i).isSome->(m i).blk≠k)->w'.heap[k]? = w.heap[k]?
 fresh:∀i,D' i->¬D i->w.heap.size<=(m' i).blk\/∃j,D j/\(dW C o j).isSome/\(m j).blk=(m' i).blk
section
variable{C:bg}{D0 D D':Nat->Prop}{m0 m m':Nat->bq}{o0:aC}{w0 w w':World}
theorem Mv.mute(h:Mv C D0 m0 o0 w0 D m w)(hs:∀i,D i->D' i)(hm:∀i,D i->m' i=m i)(hn:∀i,D' i->D i\/C.lo+o0.n<=i)(hos:w'.os=w.os)(ht:w'.tape=w.tape)(hu:w'.output=w.output)(hz:w.heap.size<=w'.heap.size)
 (hf:∀k,k<w.heap.size->w'.heap[k]? = w.heap[k]?) (hfr:∀i,D' i->¬D i->w.heap.size<=(m' i).blk):Mv C D0 m0 o0 w0 D' m' w':=by
 refine⟨λi hi=>hs i (h.sub i hi),λi hi=>(hm i (h.sub i hi)).trans (h.same i hi),λi hi=>?_,hos.trans h.os,ht.trans h.tape,hu.trans h.output,Nat.le_trans h.size hz,λk hk hn=>?_,λi hi hni=>?_⟩
 . rcases hn i hi with hi|hi
   . exact h.new i hi
   . omega
 . rw[hf k (Nat.lt_of_lt_of_le hk h.size),h.frame k hk hn]
 . by_cases hd:D i
   . rw[hm i hd];exact h.fresh i hd hni
   . exact .inl (Nat.le_trans h.size (hfr i hi hd))
theorem Mv.ext{cfg:cG}(h:Mv C D0 m0 o0 w0 D m w)(k:dk cfg C D m o w D' m' o' w')(hle:o.le.map (·.1)=o0.le.map (·.1))(hn:o0.n<=o.n):Mv C D0 m0 o0 w0 D' m' w':=by
 refine⟨λi hi=>k.sub i (h.sub i hi),λi hi=>(k.same i (h.sub i hi)).trans (h.same i hi),λi hi=>?_,k.os.trans h.os,k.tape.trans h.tape,k.output.trans h.output,Nat.le_trans h.size k.size,λb hb hn=>?_,λi hi hni=>?_⟩
 . rcases k.new i hi with hi|hi
   . exact h.new i hi
   . omega
 . rw[k.frame b (Nat.lt_of_lt_of_le hb h.size) (λi hi ho=>?_),h.frame b hb hn];rw[gZ hle i]at ho;by_cases hd:D0 i
   . rw[h.same i hd];exact hn i hd ho
   . rcases h.fresh i hi hd with hf|⟨j,hj,hoj,e⟩
     . omega
     . grind
 . by_cases hd:D i
   . rw[k.same i hd];exact h.fresh i hd hni
   . rcases k.fresh i hi hd with hf|⟨j,hj,hoj,e⟩
     . exact .inl (Nat.le_trans h.size hf)
     . rw[gZ hle j]at hoj;by_cases hdj:D0 j
       . exact .inr ⟨j,hdj,hoj,by rw[<-e,h.same j hdj]⟩
       . rcases h.fresh j hj hdj with hf|⟨j',hj',ho',e'⟩
         . omega
         . grind
end
def yP(C:bg)(S:Nat->St)(D:Nat->Prop)(k i:Nat):Prop:=D i/\i<C.lo+(S k).o.n
def Cg(ops:Array Oper)(E:Nat->Prop)(t k:Nat):Prop:=∀j,j<ops.size->dI ops j=some t->(E j↔j<k)
def jq(cfg:cG)(ops:Array Oper)(S:Nat->St)(E:Nat->Prop)(i k:Nat):Prop:=∀j,j<ops.size->Wr cfg ops S j i->(E j↔j<k)
def Sm(C:bg)(ops:Array Oper)(S:Nat->St)(E D:Nat->Prop)(m:Nat->bq)(a:Act):Prop:=
 ∀t k,k<=ops.size->Cg ops E t k->a.tmps.getD t undef=aj m ((S k).ts.get t)/\db (yP C S D k) m ((S k).ts.get t)
structure DI(cfg:cG)(C:bg)(ops:Array Oper)(S:Nat->St)(D0:Nat->Prop)(m0:Nat->bq)(w0:World)(E D:Nat->Prop)(m:Nat->bq)(a:Act)(w:World):Prop where
 sz:a.tmps.size=(S 0).tn
 defers:a.defers=gH m0 (S 0).ds
 tmp:Sm C ops S E D m a
 obj:∀i k,k<=ops.size->D i->i<C.lo+(S k).o.n->jq cfg ops S E i k->cS (yP C S D k) m (m i) (get C (S k).o i) w.heap[(m i).blk]?
 inj:∀i j k,k<=ops.size->D i->D j->i<C.lo+(S k).o.n->j<C.lo+(S k).o.n->jq cfg ops S E i k->jq cfg ops S E j k->i≠j->
  nQ (get C (S k).o i)->Dp (get C (S k).o j)->(m i).blk≠(m j).blk
 orig:∀i,D i->i<C.lo+(S 0).o.n\/∃e,E e/\e<ops.size/\C.lo+(S e).o.n<=i/\i<C.lo+(S (e+1)).o.n
 wr:∀j i,E j->j<ops.size->Wr cfg ops S j i->D i
 glob:∀g,g<cfg.G->D g/\(m g).blk=g/\(m g).base=0/\(m g).cap=1
 root:∀id,id<cfg.root.n->D id/\get C (S 0).o id=cfg.root.at id
 mv:Mv C D0 m0 (S 0).o w0 D m w
theorem JX(a:Act)(dst:Option Tmp)(v:Value)(h:∀d,dst=some d->d<a.tmps.size)(t:Nat):(a.put dst v).tmps.getD t undef=if dst=some t then v else a.tmps.getD t undef:=by
 cases dst with
 | none=>simp[Act.put]
 | some d=>
   have hd:=h d rfl;simp only[Act.put];by_cases e:t=d
   . simp_all
   . rw[if_neg (by simpa using Ne.symm e)];simp only[Array.getD,Array.size_setIfInBounds];split
     . rw[Array.getInternal_eq_getElem,Array.getInternal_eq_getElem,Array.getElem_setIfInBounds_ne (h:=λe'=>e e'.symm)]
     . rfl
section
variable{T:fb}{cfg:cG}{call:bg->FuncId->List AV->aC->Option (AV×aC)}{C:bg}{ops:Array Oper}{S:Nat->St}{D0:Nat->Prop}{m0:Nat->bq}{w0:World}{E D D':Nat->Prop}{m m':Nat->bq}{a:Act}{w w':World}{e:Nat}
theorem B5(hR:ns T cfg call C ops S)(hc:b9 cfg call)(he:e<ops.size)(hE:¬E e)(h:Sm C ops S E D m a)(ho:∀d,dI ops e=some d->∀j,j<ops.size->dI ops j=some d->j≠e->(E j↔j<e))
 (hs:∀i,D i->D' i) (hm:∀i,D i->m' i=m i) {v:AV} (hv:db (yP C S D' (e+1)) m' v) (hg:∀d,dI ops e=some d->(S (e+1)).ts.get d=v) (hd:∀d,dI ops e=some d->d<a.tmps.size) :
 Sm C ops S (λj=>E j\/j=e) D' m' (a.put (dI ops e) (aj m' v)):=by
 intro t k hk hct;rw[JX a _ _ hd];by_cases ht:dI ops e=some t
 . rw[if_pos ht];have hek:e<k:=(hct e he ht).1 (.inr rfl);have hts:(S k).ts.get t=v:=by
    rw[<-hg t ht];refine hR.ts' (by omega) hk λj h1 h2 hj=>?_;have h3:=(hct j (by omega) hj).2 h2;have h4:=ho t ht j (by omega) hj (by omega);rcases h3 with h3|h3
    . grind
    . omega
   rw[hts];refine⟨rfl,hv.mono (λi hi=>⟨hi.1,?_⟩) λ_ _=>rfl⟩;have:=hR.mono' hc (k:=e+1) (k':=k) (by omega) hk;have:=hi.2;omega
 . rw[if_neg ht];have hct':Cg ops E t k:=λj hj hjt=>by
    have:=hct j hj hjt;have hne:j≠e:=λe'=>ht (e'▸hjt);simpa [hne]using this
   obtain⟨h1,h2⟩:=h t k hk hct';refine⟨by rw[h1,jd h2 λi hi=>hm i hi.1],h2.mono (λi hi=>⟨hs i hi.1,hi.2⟩) λi hi=>hm i hi.1⟩
end
section
variable{T:fb}{cfg:cG}{call:bg->FuncId->List AV->aC->Option (AV×aC)}{C:bg}{ops:Array Oper}{S:Nat->St}{D0:Nat->Prop}{m0:Nat->bq}{w0:World}{E D D':Nat->Prop}{m m':Nat->bq}{a:Act}{w w':World}{e:Nat}
theorem DI.mute(hR:ns T cfg call C ops S)(hc:b9 cfg call)(h:DI cfg C ops S D0 m0 w0 E D m a w)(he:e<ops.size)(hE:¬E e)(hnw:∀i,¬Wr cfg ops S e i)
 (ho:∀d,dI ops e=some d->∀j,j<ops.size->dI ops j=some d->j≠e->(E j↔j<e))
 (hd:∀d,dI ops e=some d->d<(S 0).tn)
 (h1:∀i,yP C S D e i->D' i) (h2:∀i,yP C S D e i->m' i=m i) (h3:∀i,D' i->yP C S D e i\/C.lo+(S e).o.n<=i) (h4:∀i,D' i->i<C.lo+(S (e+1)).o.n)
 {v:AV} (hv:db D' m' v) (hg:∀d,dI ops e=some d->(S (e+1)).ts.get d=v)
 (hos:w'.os=w.os) (ht:w'.tape=w.tape) (hu:w'.output=w.output) (hz:w.heap.size<=w'.heap.size)
 (hmu:ni (yP C S D e) w D' m' w')
 (hobj:∀i,D' i->¬yP C S D e i->cS D' m' (m' i) (get C (S (e+1)).o i) w'.heap[(m' i).blk]?)
 (hinj:∀i j,D' i->D' j->¬yP C S D e i->¬yP C S D e j->i≠j->nQ (get C (S (e+1)).o i)->Dp (get C (S (e+1)).o j)->(m' i).blk≠(m' j).blk) :
 ∃D2 m2,aj m2 v=aj m' v/\DI cfg C ops S D0 m0 w0 (λj=>E j\/j=e) D2 m2 (a.put (dI ops e) (aj m2 v)) w':=by
 have hnr:∀i,D i->C.lo+(S e).o.n<=i->i<C.lo+(S (e+1)).o.n->False:=by
  intro i hi hlo hhi;rcases h.orig i hi with h5|⟨e',he',hl,h6,h7⟩
  . have:=hR.mono' hc (k:=0) (k':=e) (by omega) (by omega);omega
  . rcases Nat.lt_trichotomy e' e with hlt|heq|hgt
    . have:=hR.mono' hc (k:=e'+1) (k':=e) (by omega) (by omega);omega
    . exact hE (heq▸he')
    . have:=hR.mono' hc (k:=e+1) (k':=e') (by omega) (by omega);omega
 let m2:Nat->bq:=λi=>if C.lo+(S e).o.n<=i/\i<C.lo+(S (e+1)).o.n then m' i else m i
 let D2:Nat->Prop:=λi=>D i\/D' i
 have m2D:∀i,D i->m2 i=m i:=λi hi=>if_neg λhh=>hnr i hi hh.1 hh.2;have m2D':∀i,D' i->m2 i=m' i:=λi hi=>by
  rcases h3 i hi with hb|hlo
  . rw[m2D i hb.1,h2 i hb]
  . exact if_pos ⟨hlo,h4 i hi⟩
 have newR:∀i,D' i->¬D i->C.lo+(S e).o.n<=i:=λi hi hn=>(h3 i hi).resolve_left λhb=>hn hb.1;have hmono:=(hR.foot hc e he).grow;have nob:∀i,D' i->¬D i->¬yP C S D e i:=λi _ hn hb=>hn hb.1;have cB:∀i k,jq cfg ops S (λj=>E j\/j=e) i k->jq cfg ops S E i k:=λi k hcb j hj hw=>by
  have:=hcb j hj hw;have hne:j≠e:=λee=>hnw i (ee▸hw);simpa [hne]using this
 have newk:∀i k,k<=ops.size->D' i->¬D i->i<C.lo+(S k).o.n->e+1<=k:=λi k hk hi hn hlt=>by
  have:=newR i hi hn;rcases Nat.lt_or_ge e k with h'|h'
  . exact h'
  . have:=hR.mono' hc h' (by omega);omega
 have newget:∀i k,k<=ops.size->D' i->¬D i->i<C.lo+(S k).o.n->jq cfg ops S (λj=>E j\/j=e) i k->get C (S k).o i=get C (S (e+1)).o i:=λi k hk hi hn hlt hcb=>
  hR.same' hc (newk i k hk hi hn hlt) hk (h4 i hi) λj hj1 hj2 hw=>by
   rcases(hcb j (by omega) hw).2 hj2 with hj|hj
   . exact hn (h.wr j i hj (by omega) hw)
   . omega
 have oobj:∀i k,k<=ops.size->D i->i<C.lo+(S k).o.n->jq cfg ops S E i k->nQ (get C (S k).o i)->(m i).blk<w.heap.size:=λi k hk hi hlt hcb hl=>(h.obj i k hk hi hlt hcb).in_heap hl;have nblk:∀i,D' i->¬D i->w.heap.size<=(m' i).blk:=λi hi hn=>hmu.2 i hi (nob i hi hn);refine⟨D2,m2,jd hv λi hi=>m2D' i hi,?_⟩;refine{ sz:=?_,defers:=?_,tmp:=?_,obj:=?_,inj:=?_,orig:=?_,wr:=?_,glob:=?_,root:=?_,mv:=?_ }
 . have:=h.sz;cases hdst:dI ops e<;>simp[Act.put,this]
 . have:=h.defers;cases hdst:dI ops e<;>simp[Act.put,this]
 . refine B5 hR hc he hE h.tmp ho (λi hi=>.inl hi) m2D ?_ hg λd hdd=>by rw[h.sz];exact hd d hdd
   exact hv.mono (λi hi=>⟨.inr hi,h4 i hi⟩) m2D'
 . intro i k hk hi hlt hcb;by_cases hD:D i
   . have hold:=h.obj i k hk hD hlt (cB i k hcb);have:cS (yP C S D k) m (m i) (get C (S k).o i) w'.heap[(m i).blk]? := by
      cases hl:nQ (get C (S k).o i)with
      | true=>rw[hmu.1 _ (hold.in_heap hl)];exact hold
      | false=>
        cases hx:get C (S k).o i with
        | dead=>trivial
        | _=>rw[hx]at hl;cases hl
     rw[m2D i hD];exact this.mono (λj hj=>⟨.inl hj.1,hj.2⟩) λj hj=>m2D j hj.1
   . have hD':=hi.resolve_left hD;rw[newget i k hk hD' hD hlt hcb,m2D' i hD'];refine(hobj i hD' (nob i hD' hD)).mono (λj hj=>⟨.inr hj,?_⟩) m2D';have:=h4 j hj;have:=hR.mono' hc (newk i k hk hD' hD hlt) hk;omega
 . intro i j k hk hi hj hli hlj hci hcj hij hl hr;by_cases hDi:D i<;>by_cases hDj:D j
   . rw[m2D i hDi,m2D j hDj];exact h.inj i j k hk hDi hDj hli hlj (cB i k hci) (cB j k hcj) hij hl hr
   . have hDj':=hj.resolve_left hDj;rw[m2D i hDi,m2D' j hDj'];have h5:=oobj i k hk hDi hli (cB i k hci) hl;have h6:=nblk j hDj' hDj;omega
   . have hDi':=hi.resolve_left hDi;rw[m2D' i hDi',m2D j hDj];have h5:=oobj j k hk hDj hlj (cB j k hcj) (m9 hr);have h6:=nblk i hDi' hDi;omega
   . have hDi':=hi.resolve_left hDi;have hDj':=hj.resolve_left hDj;rw[m2D' i hDi',m2D' j hDj'];rw[newget i k hk hDi' hDi hli hci]at hl;rw[newget j k hk hDj' hDj hlj hcj]at hr;exact hinj i j hDi' hDj' (nob i hDi' hDi) (nob j hDj' hDj) hij hl hr
 . rintro i (hi|hi)
   . rcases h.orig i hi with h5|⟨e',h6,h7⟩
     . exact .inl h5
     . exact .inr ⟨e',.inl h6,h7⟩
   . by_cases hD:D i
     . rcases h.orig i hD with h5|⟨e',h6,h7⟩
       . exact .inl h5
       . exact .inr ⟨e',.inl h6,h7⟩
     . exact .inr ⟨e,.inr rfl,he,newR i hi hD,h4 i hi⟩
 . rintro j i (hj|rfl) hjl hw
   . exact .inl (h.wr j i hj hjl hw)
   . exact absurd hw (hnw i)
 . intro g hgl;obtain⟨g1,g2,g3⟩:=h.glob g hgl;exact⟨.inl g1,by rw[m2D g g1];exact g2,by rw[m2D g g1];exact g3⟩
 . intro id hid;exact⟨.inl (h.root id hid).1,(h.root id hid).2⟩
 . have hm0:=hR.mono' hc (k:=0) (k':=e) (by omega) (by omega);refine h.mv.mute (λi hi=>.inl hi) m2D (λi hi=>?_) hos ht hu hz hmu.1 λi hi hn=>?_
   . rcases hi with hi|hi
     . exact .inl hi
     . by_cases hD:D i
       . exact .inl hD
       . have:=newR i hi hD;exact .inr (by omega)
   . have hD':=hi.resolve_left hn;rw[m2D' i hD'];exact nblk i hD' hn
theorem DI.bar(hR:ns T cfg call C ops S)(hc:b9 cfg call)(h:DI cfg C ops S D0 m0 w0 E D m a w)(he:e<ops.size)(hE:¬E e)
 (ho:∀d,dI ops e=some d->∀j,j<ops.size->dI ops j=some d->j≠e->(E j↔j<e))
 (hd:∀d,dI ops e=some d->d<(S 0).tn)
 (hbd:∀i,D i->i<C.lo+(S e).o.n) (hwo:∀j i,j<ops.size->Wr cfg ops S j i->j≠e->(E j↔j<e)) (hwe:∀i,Wr cfg ops S e i->D i)
 {v:AV} (hv:db D' m' v) (hg:∀d,dI ops e=some d->(S (e+1)).ts.get d=v)
 (hx:dk cfg C D m (S e).o w D' m' (S (e+1)).o w') :
 DI cfg C ops S D0 m0 w0 (λj=>E j\/j=e) D' m' (a.put (dI ops e) (aj m' v)) w':=by
 have hmono:=(hR.foot hc e he).grow;have hlt':∀i,D' i->i<C.lo+(S (e+1)).o.n:=hx.inv.lt;have key:∀i k,k<=ops.size->D' i->i<C.lo+(S k).o.n->jq cfg ops S (λj=>E j\/j=e) i k->get C (S k).o i=get C (S (e+1)).o i/\(k<=e->D i/\jq cfg ops S E i k):=by
  intro i k hk hi hlt hcb;rcases Nat.lt_or_ge e k with hek|hke
  . refine⟨hR.same' hc (by omega) hk (hlt' i hi) λj hj1 hj2 hw=>?_,λhh=>by omega⟩;have h5:=(hcb j (by omega) hw).2 hj2;have h6:=hwo j i (by omega) hw (by omega);rcases h5 with h5|h5
    . have:=h6.1 h5;omega
    . omega
  . have hno:∀j,k<=j->j<e+1->¬Wr cfg ops S j i:=λj hj1 hj2 hw=>by
     have h5:=hcb j (by omega) hw;have h7:¬(E j\/j=e):=λhh=>by have:=h5.1 hh;omega
     by_cases hje:j=e
     . exact h7 (.inr hje)
     . exact h7 (.inl ((hwo j i (by omega) hw hje).2 (by omega)))
    refine⟨(hR.same' hc (by omega) (by omega) hlt hno).symm,λ_=>⟨?_,λj hj hw=>?_⟩⟩
    . rcases hx.new i hi with hi|hi
      . exact hi
      . have:=hR.mono' hc hke (by omega);omega
    . have:=hcb j hj hw;have hne:j≠e:=λee=>hno e hke (by omega) (ee▸hw);simpa [hne]using this
 refine{ sz:=?_,defers:=?_,tmp:=?_,obj:=?_,inj:=?_,orig:=?_,wr:=?_,glob:=?_,root:=?_,mv:=?_ }
 . have:=h.sz;cases hdst:dI ops e<;>simp[Act.put,this]
 . have:=h.defers;cases hdst:dI ops e<;>simp[Act.put,this]
 . refine B5 hR hc he hE h.tmp ho hx.sub hx.same ?_ hg λd hdd=>by rw[h.sz];exact hd d hdd
   exact hv.mono (λi hi=>⟨hi,hlt' i hi⟩) λ_ _=>rfl
 . intro i k hk hi hlt hcb;obtain⟨h5,h6⟩:=key i k hk hi hlt hcb;have hnew:cS D' m' (m' i) (get C (S k).o i) w'.heap[(m' i).blk]? := by rw[h5];exact hx.inv.obj i hi
   rcases Nat.lt_or_ge e k with hek|hke
   . refine hnew.mono (λj hj=>⟨hj,?_⟩) λ_ _=>rfl;have:=hlt' j hj;have:=hR.mono' hc (k:=e+1) hek hk;omega
   . obtain⟨hD,hcb'⟩:=h6 hke;have hold:=(h.obj i k hk hD hlt hcb').mono (D':=yP C S D' k) (m':=m') (λj hj=>⟨hx.sub j hj.1,hj.2⟩) λj hj=>hx.same j hj.1;rw[<-hx.same i hD]at hold;exact hold.join hnew
 . intro i j k hk hi hj hli hlj hci hcj hij hl hr;rw[(key i k hk hi hli hci).1]at hl;rw[(key j k hk hj hlj hcj).1]at hr;exact hx.inv.inj i j hi hj hij hl hr
 . intro i hi;rcases hx.new i hi with hD|hn
   . rcases h.orig i hD with h5|⟨e',h6,h7⟩
     . exact .inl h5
     . exact .inr ⟨e',.inl h6,h7⟩
   . exact .inr ⟨e,.inr rfl,he,hn,hlt' i hi⟩
 . rintro j i (hj|rfl) hjl hw
   . exact hx.sub i (h.wr j i hj hjl hw)
   . exact hx.sub i (hwe i hw)
 . intro g hgl;obtain⟨g1,g2,g3⟩:=h.glob g hgl;exact⟨hx.sub g g1,by rw[hx.same g g1];exact g2,by rw[hx.same g g1];exact g3⟩
 . intro id hid;exact⟨hx.sub id (h.root id hid).1,(h.root id hid).2⟩
 . exact h.mv.ext hx (hR.le hc e (by omega)) (hR.mono' hc (by omega) (by omega))
end
theorem zO{acc:List Nat}{n k t:Nat}:∀{l:List Oper} {i:Nat},Kz acc n k t i l->∀(d:Nat) (op:Oper),l[d]? = some op->op.dst=some t->i+d≠k->BG acc n (i+d) k=true
 | [],i,h,d,op,hd,_,_=>by simp at hd
 | o::rest,i,h,d,op,hd,ht,hne=>by
   simp only[Kz,Bool.and_eq_true]at h;cases d with
   | zero=>
     simp only[List.getElem?_cons_zero,Option.some.injEq]at hd;subst hd;have h1:=h.1;simp only[ht,OJ,Bool.or_eq_true,Bool.not_eq_true',cO]at h1;rcases h1 with(h1|h1)|h1
     . simp_all
     . omega
     . exact h1
   | succ d=>
     have:=zO h.2 d op (by simpa using hd) ht (by omega)
     rwa [show i+(d+1)=i+1+d by omega]
theorem zf{ops:Array Oper}{acc:List Nat}:∀{l:List Oper} {i:Nat},NW ops acc i l->∀(d:Nat) (op:Oper),l[d]? = some op->∀t∈oi ops op,Kz acc ops.size (i+d) t 0 ops.toList=true
 | [],i,h,d,op,hd,_,_=>by simp at hd
 | o::rest,i,h,d,op,hd,t,ht=>by
   simp only[NW,Bool.and_eq_true,List.all_eq_true]at h;cases d with
   | zero=>
     grind
   | succ d=>
     have:=zf h.2 d op (by simpa using hd) t ht
     rwa [show i+(d+1)=i+1+d by omega]
theorem xD{j:Nat}:∀{l:List Edge},E6 j l->∀e∈l,Region.binds .any e->e.on<j
 | [],_,e,he,_=>by cases he
 | x::l,h,e,he,hb=>by
   simp only[E6,Bool.and_eq_true,Bool.or_eq_true,Bool.not_eq_true',aS]at h;rcases List.mem_cons.1 he with rfl|he
   . grind
   . exact xD h.2 e he hb
theorem yI:∀{l:List Oper} {i:Nat},Gh i l->∀(d:Nat) (op:Oper),l[d]? = some op->∀e∈op.after.toList,Region.binds .any e->e.on<i+d
 | [],i,h,d,op,hd,_,_,_=>by simp at hd
 | o::rest,i,h,d,op,hd,e,he,hb=>by
   simp only[Gh,Bool.and_eq_true]at h;cases d with
   | zero=>
     simp only[List.getElem?_cons_zero,Option.some.injEq]at hd;subst hd;exact xD h.1 e he hb
   | succ d=>
     have:=yI h.2 d op (by simpa using hd) e he hb
     rwa [show i+(d+1)=i+1+d by omega]
theorem s8{id:Nat}:∀{l:List Nat},t_ id l=true↔id∈l
 | []=>by simp[t_]
 | x::l=>by
   simp only[t_,Bool.or_eq_true,cO,s8 (l:=l),List.mem_cons];exact⟨λh=>h.imp Eq.symm λx=>x,λh=>h.imp Eq.symm λx=>x⟩
theorem pO{j:Nat}{ids:List Nat}:∀{log:List (Nat×gk)},rh j ids log->∀id,(j,gk.reads id)∈log->id∉ids
 | [],_,id,h=>by cases h
 | e::rest,h,id,hm=>by
   simp only[rh,Bool.and_eq_true]at h;rcases List.mem_cons.1 hm with rfl|hm
   . have h1:=h.1;simp only[Bool.not_eq_true',Bool.and_eq_false_iff]at h1;rcases h1 with h1|h1
     . simp at h1
     . intro hin;rw[s8.2 hin]at h1;cases h1
   . exact pO h.2 id hm
theorem tX{acc:List Nat}{n i:Nat}{log:List (Nat×gk)}{ids:List Nat}:∀{l:List Oper} {b:Nat},wO acc n log i ids b l->∀(d:Nat) (op:Oper),l[d]? = some op->i≠b+d->
 ox (b8 op.op)\/BG acc n i (b+d)\/(mB (b8 op.op)/\∀id,(b+d,gk.reads id)∈log->id∉ids)
 | [],b,h,d,op,hd,_=>by simp at hd
 | o::rest,b,h,d,op,hd,hne=>by
   simp only[wO,Bool.and_eq_true]at h;cases d with
   | zero=>
     simp only[List.getElem?_cons_zero,Option.some.injEq]at hd;subst hd;have h1:=h.1;simp only[Bool.or_eq_true,Bool.and_eq_true,cO]at h1;rcases h1 with((h1|h1)|h1)|⟨h1,h2⟩
     . omega
     . grind
     . grind
     . exact .inr (.inr ⟨h1,λid=>pO h2 id⟩)
   | succ d=>
     have:=tX h.2 d op (by simpa using hd) (by omega)
     rwa [show b+(d+1)=b+1+d by omega]
theorem vy{ops:Array Oper}{acc:List Nat}{log:List (Nat×gk)}:∀{l:List (Nat×gk)},sN ops acc log l->∀i ids,(i,gk.bar ids)∈l->wO acc ops.size log i ids 0 ops.toList=true
 | [],_,i,ids,h=>by cases h
 | e::rest,h,i,ids,hm=>by
   simp only[sN,Bool.and_eq_true]at h;rcases List.mem_cons.1 hm with rfl|hm
   . exact h.1
   . exact vy h.2 i ids hm
structure AJ(cfg:cG)(ops:Array Oper)(S:Nat->St):Prop where
 bar:∀e ids,e<ops.size->dc cfg ops S e=.bar ids->∀j op,ops[j]? = some op->e≠j->
  ox (b8 op.op)\/BG (qA ops.toList.reverse) ops.size e j\/(mB (b8 op.op)/\∀id,dc cfg ops S j=.reads id->id∉ids)
 tmp:∀k op,ops[k]? = some op->∀t∈oi ops op,∀j,dI ops j=some t->j≠k->BG (qA ops.toList.reverse) ops.size j k=true
 edge:∀k op,ops[k]? = some op->∀e∈op.after.toList,Region.binds .any e->e.on<k
theorem G3{cfg:cG}{ops:Array Oper}{S:Nat->St}{acc:List Nat}{log:List (Nat×gk)}(hs:Gf ops=some acc)(hl:∀k,k<ops.size->(k,dc cfg ops S k)∈log)(ha:sN ops acc log log):AJ cfg ops S:=by
 simp only[Gf,Ap,aA,Bool.and_eq_true,Option.some.injEq]at hs;obtain⟨⟨h1,h2⟩,rfl⟩:=hs;refine⟨λe ids he hf j op hop hne=>?_,λk op hop t ht j hj hne=>?_,λk op hop e he hb=>?_⟩
 . have hjl:j<ops.size:=(Array.getElem?_eq_some_iff.1 hop).1;have h3:=vy ha e ids (by rw[<-hf];exact hl e he);have h4:=tX h3 j op (by simpa using hop) (by simpa using hne);rw[Nat.zero_add]at h4;rcases h4 with h4|h4|⟨h4,h5⟩
   . grind
   . grind
   . grind
 . have h3:=zf h1 k op (by simpa using hop) t ht;rw[Nat.zero_add]at h3;unfold dI at hj;cases hjo:ops[j]? with
   | none=>rw[hjo]at hj;cases hj
   | some oj=>
     rw[hjo]at hj;have h4:=zO h3 j oj (by simpa using hjo) hj (by simpa using hne)
     rwa [Nat.zero_add]at h4
 . have:=yI h2 k op (by simpa using hop) e he hb
   rwa [Nat.zero_add]at this
theorem si{ops:Array Oper}{E:Nat->Prop}(hd:∀j,E j->kX ops E j){e j:Nat}(hE:¬E e)(hw:kX ops E e)(hne:j≠e)(h:BG (qA ops.toList.reverse) ops.size j e\/BG (qA ops.toList.reverse) ops.size e j):E j↔j<e:=by
 have hb:(j<e/\zY (qA ops.toList.reverse) ops.size j e=true)\/(e<j/\zY (qA ops.toList.reverse) ops.size e j=true):=by
  unfold BG at h;rcases Nat.lt_or_ge j e with hl|hg
  . rw[bv.2 (Nat.le_of_lt hl),jK (by omega:¬e<=j),cond_true,cond_false]at h;exact .inl ⟨hl,h.elim id id⟩
  . rw[bv.2 hg,jK (by omega:¬j<=e),cond_true,cond_false]at h;exact .inr ⟨by omega,h.elim id id⟩
 rcases hb with⟨hl,hb⟩|⟨hl,hb⟩
 . exact⟨λ_=>hl,λ_=>zK hd e hw hb⟩
 . exact⟨λhj=>absurd (zK hd j (hd j hj) hb) hE,λhh=>by omega⟩
theorem mg{D:Nat->Prop}{m:Nat->bq}{args:List AV}(h:fN D m args):∀{ps:List Nat} {i:Nat},i∈dw args ps->D i
 | [],i,hi=>by cases hi
 | p::ps,i,hi=>by
   unfold dw at hi;split at hi
   . rename_i id hid;rcases List.mem_cons.1 hi with rfl|hi
     . simp only[ai]at hid;obtain⟨v,hv,hn⟩:=hid;have:=dK.1 h v (List.mem_of_getElem? hv);cases v<;>simp only[du,reduceCtorEq,Option.some.injEq]at hn<;>subst hn<;>exact(this _ (by simp[aD];rfl)).1
     . exact mg h hi
   . exact mg h hi
theorem zV{D:Nat->Prop}{v:AV}(h:db D m v){i:Nat}(hn:du v=some i):D i:=by
 cases v<;>simp only[du,reduceCtorEq,Option.some.injEq]at hn<;>subst hn<;>exact(h _ (by simp[aD];rfl)).1
theorem EE{cfg:cG}{D:Nat->Prop}{ρ:Operand->Option AV}{ev:Operand->Value}(hρ:lJ D m ρ ev){op:Op}{i:Nat}(h:i∈cI (cW cfg ρ op)):D i:=by
 have b1:∀x:Operand,i∈cI (sI (ob (ρ x) du))->D i:=by
  intro x hx;cases hv:ρ x with
  | none=>rw[hv]at hx;cases hx
  | some v=>
    rw[hv]at hx;simp only[ob]at hx;cases hn:du v with
    | none=>rw[hn]at hx;cases hx
    | some id=>
      rw[hn]at hx;simp only[sI,cI,List.mem_singleton]at hx;subst hx;exact zV (hρ x v hv).2 hn
 cases op<;>simp only[cW,JV,b8,cI]at h<;>first|cases h|exact b1 _ h|skip
 . rename_i t a;cases hx:ob (ρ a) du<;>rw[hx]at h<;>cases h
 . rename_i c;cases hcal:c.callee with
   | invoke x n=>rw[hcal]at h;cases h
   | builtin b=>
     rw[hcal]at h;have:i∈cI (sI (ob c.args.toList[0]? λx=>ob (ρ x) du))->D i:=by
      intro hh;cases hx:c.args.toList[0]? with
      | none=>rw[hx]at hh;cases hh
      | some x=>rw[hx]at hh;exact b1 x hh
     cases b<;>first|exact this h|cases h
   | value f=>
     rw[hcal]at h;simp only[vD]at h;cases hf:ρ f with
     | none=>rw[hf]at h;cases h
     | some fv=>
       cases hvs:gx ρ c.args.toList with
       | none=>rw[hf,hvs]at h;cases h
       | some vs=>
         rw[hf,hvs]at h;obtain⟨_,h4⟩:=kC hρ hvs;have h2:=(hρ f _ hf).2;cases fv<;>simp only[Gz,List.not_mem_nil]at h;rename_i fid first captured
         have hok:fN D m (first++vs++captured):=by
          have:fN D m first/\fN D m captured:=⟨λi hm=>h2 i (by simp[aD,hm]),λi hm=>h2 i (by simp[aD,hm])⟩
          exact eA.2 ⟨eA.2 ⟨this.1,h4⟩,this.2⟩
         refine mg hok (ps:=cfg.lend fid) ?_;cases hna:dw (first++vs++captured) (cfg.lend fid)with
         | nil=>rw[hna]at h;cases h
         | cons x xs=>rw[hna]at h;exact h
def Ee(f:Nat->aE)(r N:Nat):aC:=⟨N-r,((List.range (N-r)).map λk=>f (k+r)).reverse,[]⟩
def qR(cfg:cG)(f:Nat->aE)(N:Nat):bg:=⟨[(cfg.root.n,Ee f cfg.root.n N),(0,cfg.root)],N⟩
def qJ:aC:=⟨0,[],[]⟩
theorem Fb{cfg:cG}{f:Nat->aE}{N:Nat}{l:List aE}(h:id<N):get (qR cfg f N) (iC l qJ) id=if cfg.root.n<=id then f id else cfg.root.at id:=by
 rw[get,gy];simp only[qR];rw[jK (by omega:¬N<=id)];simp only[cond_false,iC,qJ,fg,gy];by_cases hr:cfg.root.n<=id
 . rw[bv.2 hr,if_pos hr,cond_true];unfold Ee aC.at;simp only;rw[List.getD_eq_getElem?_getD,List.getElem?_reverse (by simp;omega)];simp only[List.length_map,List.length_range,List.getElem?_map];rw[show N-cfg.root.n-1-(N-cfg.root.n-1-(id-cfg.root.n))=id-cfg.root.n by omega,List.getElem?_range (by omega)];simp only[Option.map_some,Option.getD_some];rw[show id-cfg.root.n+cfg.root.n=id by omega]
 . rw[jK hr,if_neg hr,cond_false];simp only[Ee,fg];rw[bv.2 (Nat.zero_le _),cond_true,Nat.sub_zero]
theorem DA{C C':bg}{l:List aE}(hn:C'.lo+o'.n=C.lo+o.n)(h1:C.lo+o.n<=id)(h2:id<C.lo+o.n+l.length):get C' (iC l o') id=get C (iC l o) id:=by
 have key:∀(C:bg) (o:aC),C.lo+o.n<=id->id<C.lo+o.n+l.length->get C (iC l o) id=l.getD (C.lo+o.n+l.length-1-id) .dead:=by
  intro C o h1 h2;rw[get,gy,bv.2 (by omega:C.lo<=id),cond_true];unfold iC aC.at;simp only;rw[show o.n+l.length-1-(id-C.lo)=C.lo+o.n+l.length-1-id by omega];simp only[List.getD_eq_getElem?_getD];rw[List.getElem?_append_left (by omega)]
 rw[key C o h1 h2,key C' o' (by omega) (by omega),hn]
end Go.Ev
