import Derived.Test.YtafekjglclnegaaGreatDoorP17
set_option linter.all false
namespace Go.Ev
open Go Go.RowKit
def Cw(cfg:cx)(ws:List aw):bg:=⟨[(cfg.root.n,⟨ws.length,ws.reverse,[]⟩),(0,cfg.root)],cfg.root.n+ws.length⟩
structure vO where
 szs:List Nat
 ws:List aw
 ok:Bool
def rx:dv->dv
 | .known c=>.known c
 | .rest _=>.rest 0
def kg(f:AV->vO->Option (AV×vO)):List AV->vO->Option (List AV×vO)
 | [],q=>some ([],q)
 | v::vs,q=>ob (f v q) λp=>ob (kg f vs p.2) λp'=>some (p.1::p'.1,p'.2)
def aY(cs:List AV)(off n:Nat):List AV:=(cs.drop off).take n
def kx(r:Nat)(C:bg)(o:aC):Nat->AV->vO->Option (AV×vO)
 | 0,_,_=>none
 | d+1,v,q=>match v with
   | .slice id off len c=>(match q.szs with
     | []=>none
     | sz::szs=>ob (cellsOf (get C o id)) λcs=>some (.slice (r+q.ws.length) 0 len (rx c),⟨szs,q.ws++[.cells (aY cs off (len*sz)) false none],q.ok&&(Nat.ble (off+len*sz) cs.length&&aG r (aY cs off (len*sz)))⟩))
   | .agg cs=>ob (kg (kx r C o d) cs q) λp=>some (.agg p.1,p.2)
   | .func f a b=>ob (kg (kx r C o d) a q) λp=>ob (kg (kx r C o d) b p.2) λp'=>some (.func f p.1 p'.1,p'.2)
   | .iface t v=>ob (kx r C o d v q) λp=>some (.iface t p.1,p.2)
   | .ptr id off=>ok (bm id r) (some (.ptr id off,q))
   | .tuple _=>none
   | .map _=>none
   | .yield _=>none
   | v=>some (v,q)
def RW(b b':Nat):Nat->List (Nat×Nat)
 | 0=>[]
 | n+1=>(b+n,b'+n)::RW b b' n
abbrev lq:Type:=List AV->List aw->Option (Tr (AV×List aw))
def Rf(r b:Nat)(C:bg)(o:aC)(x:AV×List aw):Tr (AV×aC):=
 aV (jB r (RW b (C.lo+o.n) x.2.length) 20 x.1) λv=>.ret (v,⟨x.2.length+o.n,x.2++o.os,o.le⟩)
def gD(r:Nat)(szs:List Nat)(e:lq):CR:=λC args o=>
 ob (kg (kx r C o 20) args ⟨szs,[],true⟩) λq=>ob (e q.1 q.2.ws) λt=>some (eh q.2.ok (t.bind (Rf r (r+q.2.ws.length) C o)))
def bR(P:Program)(cfg:cx)(f:FuncId)(args:List AV)(ws:List aw)(v:AV)(news:List aw):Prop:=
 ∀D m w,dQ cfg D m (Cw cfg ws) ⟨0,[],[]⟩ w->eI D m args->iY P f (ar m args).toArray w λV w'=>∃D' m',V=aj m' v/\cY D' m' v/\dk cfg (Cw cfg ws) D m ⟨0,[],[]⟩ w D' m' ⟨news.length,news,[]⟩ w'
def OY(P:Program)(cfg:cx)(f:FuncId)(e:lq):Prop:=∀args ws t r,e args ws=some t->t.run=some r->bR P cfg f args ws r.1 r.2/\∀x∈r.2,eG cfg.root.n x
theorem yS{b b':Nat}:∀{n i k:Nat},qY (RW b b' n) i=some k->∃j,j<n/\i=b+j/\k=b'+j
 | 0,i,k,h=>by cases h
 | n+1,i,k,h=>by
   rw[RW,qY]at h
   by_cases e:b+n=i
   · rw[dI e,cond_true,Option.some.injEq]at h
     exact⟨n,by omega,e.symm,h.symm⟩
   · rw[iH e,cond_false]at h
     obtain⟨j,h1,h2,h3⟩:=yS h
     exact⟨j,by omega,h2,h3⟩
section
variable{cfg:cx}{C:bg}{o:aC}{D:Nat->Prop}{m:Nat->bo}{w:World}
def mL(r:Nat)(m:Nat->bo)(L:List bo)(id:Nat):bo:=if id<r then m id else L.getD (id-r) ⟨0,0,0⟩
def DL(r:Nat)(D:Nat->Prop)(L:List bo)(id:Nat):Prop:=(id<r/\D id)\/(r<=id/\id<r+L.length)
theorem kI{r:Nat}{L:List bo}{id:Nat}(h:id<r):mL r m L id=m id:=if_pos h
theorem Eo{r:Nat}{L:List bo}{j:Nat}{l:bo}(h:L[j]? = some l):mL r m L (r+j)=l:=by
 unfold mL
 rw[if_neg (by omega),show r+j-r=j by omega,List.getD_eq_getElem?_getD,h];rfl
def Dz(r:Nat)(D:Nat->Prop)(m:Nat->bo)(w:World)(x:aw)(l:bo):Prop:=
 ∃win,x=.cells win false none/\aG r win=true/\eI D m win/\∃c e fz,w.heap[l.blk]? = some (.cells c e fz)/\∀i v,win[i]? = some v->c[l.base+i]? = some (aj m v)
def G5(r:Nat)(D:Nat->Prop)(m:Nat->bo)(w:World)(L:List bo)(ws:List aw):Prop:=L.length=ws.length/\∀(j:Nat) (x:aw) (l:bo),ws[j]? = some x->L[j]? = some l->Dz r D m w x l
theorem G5.push{r:Nat}{L:List bo}{ws:List aw}{x:aw}{l:bo}(h:G5 r D m w L ws)(hx:Dz r D m w x l):G5 r D m w (L++[l]) (ws++[x]):=by
 refine⟨by simp[h.1],λj y k hy hk=>?_⟩
 by_cases e:j<ws.length
 · rw[List.getElem?_append_left e]at hy
   rw[List.getElem?_append_left (by rw[h.1];exact e)]at hk
   exact h.2 j y k hy hk
 · rw[List.getElem?_append_right (by omega)]at hy
   rw[List.getElem?_append_right (by rw[h.1];omega)]at hk
   have hj:j-ws.length=0:=by
    grind
   rw[hj]at hy
   rw[show j-L.length=0 by rw[h.1];exact hj]at hk
   simp only[List.getElem?_cons_zero,Option.some.injEq]at hy hk
   rw[<-hy,<-hk];exact hx
def ET(r:Nat)(D:Nat->Prop)(m:Nat->bo)(w:World)(L:List bo)(q q':vO)(S:List bo->Prop):Prop:=
 ∃L',q.ok=true/\G5 r D m w (L++L') q'.ws/\∀L'',S ((L++L')++L'')
section
variable(hi:dQ cfg D m C o w)
include hi
theorem wA{d:Nat}(ih:∀{v q v' q'},kx cfg.root.n C o d v q=some (v',q')->cY D m v->q'.ok=true->∀L,G5 cfg.root.n D m w L q.ws->ET cfg.root.n D m w L q q' λK=>aj (mL cfg.root.n m K) v'=aj m v/\cY (DL cfg.root.n D K) (mL cfg.root.n m K) v') :
 ∀{vs:List AV} {q:vO} {vs':List AV} {q':vO},kg (kx cfg.root.n C o d) vs q=some (vs',q')->eI D m vs->q'.ok=true->∀L,G5 cfg.root.n D m w L q.ws->ET cfg.root.n D m w L q q' λK=>ar (mL cfg.root.n m K) vs'=ar m vs/\eI (DL cfg.root.n D K) (mL cfg.root.n m K) vs'
 | [],q,vs',q',h,_,hq,L,hL=>by
   cases h
   exact⟨[],hq,by simpa using hL,λL''=>⟨by simp[ar],eL⟩⟩
 | v::vs,q,vs',q',h,hok,hq,L,hL=>by
   simp only[kg,ag,Option.some.injEq,Prod.mk.injEq]at h
   obtain⟨⟨v1,q1⟩,h1,⟨vs1,q2⟩,h2,rfl,rfl⟩:=h
   obtain⟨a1,a2⟩:=cq.1 hok
   have hq1:q1.ok=true:=by
    have mono:∀{d:Nat} {v:AV} {q:vO} {r:AV×vO},kx cfg.root.n C o d v q=some r->r.2.ok=true->q.ok=true:=by
     intro d
     induction d with
     | zero=>intro v q r h;cases h
     | succ d ihd=>
       have hl:∀{vs:List AV} {q:vO} {r:List AV×vO},kg (kx cfg.root.n C o d) vs q=some r->r.2.ok=true->q.ok=true:=by
        intro vs
        induction vs with
        | nil=>intro q r h hr;cases h;exact hr
        | cons v vs ihv=>
          intro q r h hr
          simp only[kg,ag,Option.some.injEq]at h
          obtain⟨p,hp,p',hp',rfl⟩:=h
          exact ihd hp (ihv hp' hr)
       intro v q r h hr
       unfold kx at h
       cases v<;>simp only[ag,ay,Option.some.injEq,reduceCtorEq]at h
       case slice id off len c=>
        split at h
        · cases h
        · simp only[ag,Option.some.injEq]at h
          obtain⟨cs,_,rfl⟩:=h
          simp only[Bool.and_eq_true]at hr
          exact hr.1
       case agg cs=>obtain⟨p,hp,rfl⟩:=h;exact hl hp hr
       case func f a b=>obtain⟨p,hp,p',hp',rfl⟩:=h;exact hl hp (hl hp' hr)
       case iface t v=>obtain⟨p,hp,rfl⟩:=h;exact ihd hp hr
       case ptr=>obtain⟨_,rfl⟩:=h;exact hr
       all_goals (subst h;exact hr)
    have monoL:∀{vs:List AV} {q:vO} {r:List AV×vO},kg (kx cfg.root.n C o d) vs q=some r->r.2.ok=true->q.ok=true:=by
     intro vs
     induction vs with
     | nil=>intro q r h hr;cases h;exact hr
     | cons v vs ihv=>
       intro q r h hr
       simp only[kg,ag,Option.some.injEq]at h
       obtain⟨p,hp,p',hp',rfl⟩:=h
       exact mono hp (ihv hp' hr)
    exact monoL h2 hq
   obtain⟨L1,b1,b2,b3⟩:=ih h1 a1 hq1 L hL
   obtain⟨L2,c1,c2,c3⟩:=wA ih h2 a2 hq _ b2
   refine⟨L1++L2,b1,by rw[<-List.append_assoc];exact c2,λL''=>?_⟩
   have x:=b3 (L2++L'')
   have y:=c3 L''
   rw[show L++L1++(L2++L'')=L++(L1++L2)++L'' by simp]at x
   rw[show L++L1++L2++L''=L++(L1++L2)++L'' by simp]at y
   exact⟨by simp only[ar];rw[x.1,y.1],cq.2 ⟨x.2,y.2⟩⟩
theorem vX:∀{d:Nat} {v:AV} {q:vO} {v':AV} {q':vO},kx cfg.root.n C o d v q=some (v',q')->cY D m v->q'.ok=true->∀L,G5 cfg.root.n D m w L q.ws->ET cfg.root.n D m w L q q' λK=>aj (mL cfg.root.n m K) v'=aj m v/\cY (DL cfg.root.n D K) (mL cfg.root.n m K) v'
 | 0,v,q,v',q',h,_,_,L,hL=>by cases h
 | d+1,v,q,v',q',h,hok,hq,L,hL=>by
   have ihL:=@wA cfg C o D m w hi d (λ{v q v' q'}=>vX (d:=d) (v:=v) (q:=q) (v':=v') (q':=q'))
   unfold kx at h
   cases v<;>simp only[ag,ay,Option.some.injEq,reduceCtorEq,Prod.mk.injEq]at h
   case slice id off len c=>
    split at h
    · cases h
    · rename_i sz szs hsz
      simp only[ag,Option.some.injEq,Prod.mk.injEq]at h
      obtain⟨cs,hcs,rfl,rfl⟩:=h
      simp only[Bool.and_eq_true,bt]at hq
      obtain⟨hq1,hle,hbl⟩:=hq
      obtain⟨hD,hcap⟩:=hok (id,d6 len c) (by simp[aq])
      have hobj:=hi.obj id hD
      obtain⟨rw',g,hg⟩:∃rw' g,get C o id=.cells cs rw' g:=by
       unfold cellsOf at hcs
       split at hcs
       · grind
       · cases hcs
      rw[hg]at hobj
      obtain⟨cc,e,fz,hb,hc⟩:=hobj
      have win_at:∀i v,(aY cs off (len*sz))[i]? = some v->cs[off+i]? = some v:=λi v hv=>by
       unfold aY at hv
       rw[List.getElem?_take]at hv
       split at hv
       · grind
       · cases hv
      let l:bo:=⟨(m id).blk,(m id).base+off,match c with|.known _=>0|.rest k=>(m id).cap-k⟩
      have hW:Dz cfg.root.n D m w (.cells (aY cs off (len*sz)) false none) l:=
       ⟨_,rfl,hbl,dy.2 λv hv=>by
        obtain⟨i,hi'⟩:=List.getElem?_of_mem hv
        exact dy.1 hc.okc v (List.mem_of_getElem? (win_at i v hi')),cc,e,fz,hb,λi v hv=>by
        have:=hc.at' _ v (win_at i v hv)
        rw[show l.base+i=(m id).base+(off+i)by simp only[l];omega];exact this⟩
      refine⟨[l],hq1,hL.push hW,λL''=>?_⟩
      have hj:((L++[l])++L'')[q.ws.length]? = some l:=by
       rw[List.append_assoc,List.getElem?_append_right (Nat.le_of_eq hL.1),hL.1];simp
      refine⟨?_,λi hi'=>?_⟩
      · simp only[aj,Eo hj]
        cases c with
        | known n=>simp[rx,gI,l]
        | rest k=>simp[rx,gI,l]
      · simp only[aq,List.mem_singleton]at hi'
        subst hi'
        refine⟨.inr ⟨by simp only;omega,by simp only[List.length_append,hL.1,List.length_cons,List.length_nil];omega⟩,?_⟩
        simp only[Eo hj]
        cases c with
        | known n=>simp[rx,d6]
        | rest k=>simp only[rx,d6,l];simp only[d6]at hcap;omega
   case agg cs=>
    obtain⟨⟨vs',q1⟩,h1,rfl,rfl⟩:=h
    obtain⟨L',x1,x2,x3⟩:=ihL h1 (gA.1 hok) hq L hL
    exact⟨L',x1,x2,λL''=>⟨by simp only[aj];rw[(x3 L'').1],gA.2 (x3 L'').2⟩⟩
   case func f a b=>
    obtain⟨⟨a',q1⟩,h1,⟨b',q2⟩,h2,rfl,rfl⟩:=h
    have hcat:kg (kx cfg.root.n C o d) (a++b) q=some (a'++b',q2):=by
     have:∀{xs:List AV} {q q1 q2:vO} {xs':List AV},kg (kx cfg.root.n C o d) xs q=some (xs',q1)->kg (kx cfg.root.n C o d) b q1=some (b',q2)->kg (kx cfg.root.n C o d) (xs++b) q=some (xs'++b',q2):=by
      intro xs
      induction xs with
      | nil=>intro q q1 q2 xs' h1 h2;cases h1;exact h2
      | cons x xs ih=>
        intro q q1 q2 xs' h1 h2
        simp only[kg,ag,Option.some.injEq,Prod.mk.injEq]at h1
        obtain⟨p,hp,⟨ys,q3⟩,hp',rfl,rfl⟩:=h1
        simp only[List.cons_append,kg,hp,ob,ih hp' h2]
     exact this h1 h2
    obtain⟨L',x1,x2,x3⟩:=ihL hcat (dT.2 ⟨λi hi'=>hok i (by simp[aq,hi']),λi hi'=>hok i (by simp[aq,hi'])⟩) hq L hL
    refine⟨L',x1,x2,λL''=>?_⟩
    obtain⟨y1,y2⟩:=x3 L''
    have hlen:a'.length=a.length:=by
     have:∀{xs:List AV} {q:vO} {r:List AV×vO},kg (kx cfg.root.n C o d) xs q=some r->r.1.length=xs.length:=by
      intro xs
      induction xs with
      | nil=>intro q r h;cases h;rfl
      | cons x xs ih=>
        intro q r h
        simp only[kg,ag,Option.some.injEq]at h
        obtain⟨p,_,p',hp',rfl⟩:=h
        simp[ih hp']
     exact this h1
    rw[jD,jD]at y1
    obtain⟨z1,z2⟩:=List.append_inj y1 (by rw[bZ,bZ,hlen])
    obtain⟨u1,u2⟩:=dT.1 y2
    refine⟨by simp only[aj];rw[z1,z2],λi hi'=>?_⟩
    simp only[aq,List.mem_append]at hi'
    exact hi'.elim (u1 i) (u2 i)
   case iface t u=>
    obtain⟨⟨u',q1⟩,h1,rfl,rfl⟩:=h
    obtain⟨L',x1,x2,x3⟩:=vX h1 (λi hi'=>hok i (by simpa [aq]using hi')) hq L hL
    exact⟨L',x1,x2,λL''=>⟨by simp only[aj];rw[(x3 L'').1],λi hi'=>(x3 L'').2 i (by simpa [aq]using hi')⟩⟩
   case ptr id off=>
    obtain⟨h1,rfl,rfl⟩:=h
    rw[ba]at h1
    refine⟨[],hq,by simpa using hL,λL''=>⟨by simp only[aj,kI h1],λi hi'=>?_⟩⟩
    simp only[aq,List.mem_singleton]at hi'
    subst hi'
    exact⟨.inl ⟨h1,(hok (id,0) (by simp[aq])).1⟩,by simp⟩
   all_goals
    obtain⟨rfl,rfl⟩:=h
    exact⟨[],hq,by simpa using hL,λL''=>⟨by simp[aj],bQ (by simp[aq])⟩⟩
end
end
section
variable{cfg:cx}(hK:nL cfg)(hRO:∀id,id<cfg.root.n->zi (cfg.root.at id)=false)
theorem kF{ws:List aw}{o1:aC}(hle:o1.le=[]){id:Nat}:(id<cfg.root.n->get (Cw cfg ws) o1 id=cfg.root.at id)/\(∀j x,ws[j]? = some x->get (Cw cfg ws) o1 (cfg.root.n+j)=x)/\(∀j,get (Cw cfg ws) o1 (cfg.root.n+ws.length+j)=o1.at j):=by
 refine⟨λh=>?_,λj x hj=>?_,λj=>?_⟩
 · rw[get,ff]
   simp only[Cw]
   rw[im (by omega),cond_false,hle]
   simp only[ew,ff]
   rw[im (by omega),cond_false,bt.2 (Nat.zero_le _),cond_true,Nat.sub_zero]
 · have hlt:=(List.getElem?_eq_some_iff.1 hj).1
   rw[get,ff]
   simp only[Cw]
   rw[im (by omega),cond_false,hle]
   simp only[ew,ff]
   rw[bt.2 (by omega),cond_true]
   unfold aC.at
   simp only
   rw[List.getD_eq_getElem?_getD,List.getElem?_reverse (by omega),show ws.length-1-(ws.length-1-(cfg.root.n+j-cfg.root.n))=j by omega,hj]
   rfl
 · rw[get,ff]
   simp only[Cw]
   rw[bt.2 (by omega),cond_true,show cfg.root.n+ws.length+j-(cfg.root.n+ws.length)=j by omega]
include hK hRO in
theorem Eg{C:bg}{o:aC}{D:Nat->Prop}{m:Nat->bo}{w:World}(hi:dQ cfg D m C o w){L:List bo}{ws:List aw}(hL:G5 cfg.root.n D m w L ws) :
 dQ cfg (DL cfg.root.n D L) (mL cfg.root.n m L) (Cw cfg ws) ⟨0,[],[]⟩ w:=by
 have low:∀v,cY D m v->(∀i∈aq v,i.1<cfg.root.n)->aj (mL cfg.root.n m L) v=aj m v/\cY (DL cfg.root.n D L) (mL cfg.root.n m L) v:=λv hv hb=>
  ⟨gY v λi hm=>kI (hb i hm),λi hm=>⟨.inl ⟨hb i hm,(hv i hm).1⟩,by rw[kI (hb i hm)];exact(hv i hm).2⟩⟩
 have win:∀j,j<L.length->∃x l,ws[j]? = some x/\L[j]? = some l/\Dz cfg.root.n D m w x l:=λj h=>by
  have h2:j<ws.length:=by rw[<-hL.1];exact h
  exact⟨_,_,List.getElem?_eq_getElem h2,List.getElem?_eq_getElem h,hL.2 j _ _ (List.getElem?_eq_getElem h2) (List.getElem?_eq_getElem h)⟩
 have mvok:zw cfg.root.n [] D (DL cfg.root.n D L) m (mL cfg.root.n m L):=⟨λi hd h=>⟨.inl ⟨h,hd⟩,kI h⟩,λi j h=>by cases h⟩
 refine⟨λid hd=>?_,λi j hdi hdj hij hl hr=>?_,λid hd=>?_,λg hg=>?_,λid hid=>?_,λid hid=>(by cases hid),by simp only[Cw];omega,rfl⟩
 · rcases hd with⟨h1,h2⟩|⟨h1,h2⟩
   · rw[(kF rfl).1 h1,kI h1,<-(hi.root id h1).2]
     exact qs mvok (hi.obj id h2) ⟨by rw[(hi.root id h1).2];exact hK.loops id h1,λi hm=>by rw[(hi.root id h1).2]at hm;exact hK.root id h1 i hm⟩
   · obtain⟨j,rfl⟩:∃j,id=cfg.root.n+j:=⟨id-cfg.root.n,by omega⟩
     obtain⟨x,l,hx,hl,cs,rfl,hbl,hok,c,e,fz,hb,hat⟩:=win j (by omega)
     rw[(kF (cfg:=cfg) (id:=0) rfl).2.1 j _ hx,Eo hl]
     have hlow:∀v∈cs,aj (mL cfg.root.n m L) v=aj m v/\cY (DL cfg.root.n D L) (mL cfg.root.n m L) v:=λv hv=>low v (dy.1 hok v hv) λi hm=>oR hbl i (eP.2 ⟨v,hv,hm⟩)
     exact⟨c,e,fz,hb,⟨λi v hv=>by rw[hat i v hv,(hlow v (List.mem_of_getElem? hv)).1],dy.2 λv hv=>(hlow v hv).2,λh=>(by cases h),λs h=>(by cases h)⟩⟩
 · exfalso
   rcases hdj with⟨h1,h2⟩|⟨h1,h2⟩
   · rw[(kF rfl).1 h1,hRO j h1]at hr;cases hr
   · obtain⟨k,rfl⟩:∃k,j=cfg.root.n+k:=⟨j-cfg.root.n,by omega⟩
     obtain⟨x,l,hx,hl',cs,rfl,_⟩:=win k (by omega)
     rw[(kF (cfg:=cfg) (id:=0) rfl).2.1 k _ hx]at hr
     cases hr
 · rcases hd with⟨h1,h2⟩|⟨h1,h2⟩
   · simp only[Cw];omega
   · have:=hL.1;simp only[Cw];omega
 · obtain⟨a1,a2,a3⟩:=hi.glob g hg
   have:=hK.G
   exact⟨.inl ⟨by omega,a1⟩,by rw[kI (by omega)];exact a2,by rw[kI (by omega)];exact a3⟩
 · exact⟨.inl ⟨hid,(hi.root id hid).1⟩,(kF rfl).1 hid⟩
theorem gy{P:Program}{f:FuncId}{szs:List Nat}{e:lq}(hK:nL cfg)(hRO:∀id,id<cfg.root.n->zi (cfg.root.at id)=false)(h:OY P cfg f e):rE P cfg f (gD cfg.root.n szs e):=by
 intro C args o t r ht hr
 unfold gD at ht
 rw[ag]at ht
 obtain⟨⟨args',q⟩,hcan,ht⟩:=ht
 simp only[ag,Option.some.injEq]at ht
 obtain⟨t0,he,rfl⟩:=ht
 obtain⟨hq,hr⟩:=bu hr
 obtain⟨⟨v,news⟩,hv,hr⟩:=Tr.run_bind hr
 obtain⟨hfact,hlow⟩:=h args' q.ws t0 (v,news) he hv
 unfold Rf at hr
 obtain⟨v',hmv,hr⟩:=au hr
 cases hr
 simp only at hmv hfact hlow ⊢
 refine⟨λD m w hi hok=>?_,λhl=>?_⟩
 · have hW0:G5 cfg.root.n D m w [] []:=⟨rfl,λj x l hj=>by simp at hj⟩
   obtain⟨L',_,hL,hS⟩:=wA hi (d:=20) (λ{v q v' q'}=>vX hi) hcan hok hq [] hW0
   have hS:=hS []
   simp only[List.nil_append,List.append_nil]at hL hS
   obtain⟨hc,hok'⟩:=hS
   rw[<-hc]
   refine(hfact _ _ w (Eg hK hRO hi hL) hok').mono ?_
   rintro V w' ⟨D',m',rfl,hv',hx⟩
   have hlo:=hi.lo
   have hframe:∀k,k<w.heap.size->w'.heap[k]? = w.heap[k]? := λk hk=>hx.frame k hk λi hd ho=>by
    exfalso
    have hlt:i<cfg.root.n+q.ws.length:=by
     rcases hd with⟨h1,_⟩|⟨_,h2⟩
     · omega
     · rw[<-hL.1];exact h2
    unfold dP at ho
    rw[im (by simp only[Cw];omega),cond_false]at ho
    simp[ew]at ho
   have hfresh:∀i,D' i->¬DL cfg.root.n D L' i->w.heap.size<=(m' i).blk:=λi hd hn=>(hx.fresh i hd hn).resolve_right λ⟨j,hj,ho,_⟩=>by
    have hlt:j<cfg.root.n+q.ws.length:=by
     rcases hj with⟨h1,_⟩|⟨_,h2⟩
     · omega
     · rw[<-hL.1];exact h2
    unfold dP at ho
    rw[im (by simp only[Cw];omega),cond_false]at ho
    simp[ew]at ho
   obtain⟨D2,hD2⟩:∃D2:Nat->Prop,D2=λid=>D id\/∃j,j<news.length/\id=C.lo+o.n+j/\D' (cfg.root.n+q.ws.length+j):=⟨_,rfl⟩
   obtain⟨m2,hm2⟩:∃m2:Nat->bo,m2=λid=>if id<C.lo+o.n then m id else m' (cfg.root.n+q.ws.length+(id-(C.lo+o.n))):=⟨_,rfl⟩
   have m2low:∀i,i<C.lo+o.n->m2 i=m i:=λi h=>by rw[hm2];simp[h]
   have m2new:∀j,m2 (C.lo+o.n+j)=m' (cfg.root.n+q.ws.length+j):=λj=>by
    rw[hm2]
    simp only[if_neg (by omega:¬C.lo+o.n+j<C.lo+o.n)]
    rw[show C.lo+o.n+j-(C.lo+o.n)=j by omega]
   have hd'low:∀i,D' i->i<cfg.root.n->D i/\m' i=m i:=λi hd h=>by
    rcases hx.new i hd with h1|h1
    · have:=hx.same i h1
      rcases h1 with⟨_,h2⟩|⟨h2,_⟩
      · exact⟨h2,by rw[this,kI h]⟩
      · omega
    · simp only[Cw]at h1;omega
   have mvok:zw cfg.root.n (RW (cfg.root.n+q.ws.length) (C.lo+o.n) news.length) D' D2 m' m2:=by
    refine⟨λi hd h=>?_,λi j hl hd=>?_⟩
    · obtain⟨a,b⟩:=hd'low i hd h
      exact⟨by rw[hD2];exact .inl a,by rw[m2low i (by omega),b]⟩
    · obtain⟨t,h1,rfl,rfl⟩:=yS hl
      exact⟨by rw[hD2];exact .inr ⟨t,h1,rfl,hd⟩,m2new t⟩
   obtain⟨hcv,hokv⟩:=pC mvok hmv hv'
   have hnl:news.length=(⟨news.length,news,[]⟩:aC).n:=rfl
   have gold:∀i,i<C.lo+o.n->get C ⟨news.length+o.n,news++o.os,o.le⟩ i=get C o i:=λi h=>pH (o1:=⟨news.length,news,[]⟩) (o:=o) rfl h
   have gnew:∀j,j<news.length->get C ⟨news.length+o.n,news++o.os,o.le⟩ (C.lo+o.n+j)=(⟨news.length,news,[]⟩:aC).at j:=λj h=>by
    have:=vJ (C:=C) (o1:=⟨news.length,news,[]⟩) (o:=o) (i:=C.lo+o.n+j) rfl (by omega) (by simp only;omega)
    rw[show C.lo+o.n+j-(C.lo+o.n)=j by omega]at this
    exact this
   have hold:∀i,D i->i<C.lo+o.n:=hi.lt
   have hnew_low:∀j,j<news.length->eG cfg.root.n ((⟨news.length,news,[]⟩:aC).at j):=λj h=>by
    unfold aC.at
    simp only
    rw[List.getD_eq_getElem?_getD,List.getElem?_eq_getElem (by omega)]
    exact hlow _ (List.getElem_mem _)
   have hinv:dQ cfg D2 m2 C ⟨news.length+o.n,news++o.os,o.le⟩ w':=by
    have hi':dQ cfg D m C o w':=hi.world λj hj hlv=>hframe _ ((hi.obj j hj).in_heap hlv)
    refine⟨λid hd=>?_,λi j hdi hdj hij hl hr=>?_,λid hd=>?_,λg hg=>?_,λid hid=>?_,λid hid=>hi.le id hid,hi.lo,by simp[hi.len]⟩
    · rw[hD2]at hd
      rcases hd with hd|⟨j,hj,rfl,hd⟩
      · rw[gold id (hold id hd),m2low id (hold id hd)]
        exact(hi'.obj id hd).mono (λi h=>by rw[hD2];exact .inl h) λi h=>m2low i (hold i h)
      · rw[gnew j hj,m2new]
        have:=hx.inv.obj _ hd
        rw[(kF (cfg:=cfg) (id:=0) rfl).2.2 j]at this
        exact qs mvok this (hnew_low j hj)
    · rw[hD2]at hdi hdj
      have isnew:∀j,j<news.length->D' (cfg.root.n+q.ws.length+j)->w.heap.size<=(m' (cfg.root.n+q.ws.length+j)).blk:=λj hj hd=>hfresh _ hd λh=>by
       rcases h with⟨h1,_⟩|⟨_,h2⟩
       · omega
       · rw[hL.1]at h2;omega
      rcases hdi with hdi|⟨a,ha,rfl,hdi⟩<;>rcases hdj with hdj|⟨b,hb,rfl,hdj⟩
      · rw[gold i (hold i hdi)]at hl
        rw[gold j (hold j hdj)]at hr
        rw[m2low i (hold i hdi),m2low j (hold j hdj)]
        exact hi.inj i j hdi hdj hij hl hr
      · rw[gold i (hold i hdi)]at hl
        rw[m2low i (hold i hdi),m2new]
        have h1:=(hi.obj i hdi).in_heap hl
        have h2:=isnew b hb hdj
        omega
      · rw[gold j (hold j hdj)]at hr
        rw[m2low j (hold j hdj),m2new]
        have h1:=(hi.obj j hdj).in_heap (j4 hr)
        have h2:=isnew a ha hdi
        omega
      · rw[gnew a ha]at hl
        rw[gnew b hb]at hr
        rw[m2new,m2new]
        refine hx.inv.inj _ _ hdi hdj (by omega) ?_ ?_
        · rw[(kF (cfg:=cfg) (id:=0) rfl).2.2 a];exact hl
        · rw[(kF (cfg:=cfg) (id:=0) rfl).2.2 b];exact hr
    · rw[hD2]at hd
      rcases hd with hd|⟨j,hj,rfl,_⟩
      · have:=hold id hd;simp only;omega
      · simp only;omega
    · obtain⟨a1,a2,a3⟩:=hi.glob g hg
      exact⟨by rw[hD2];exact .inl a1,by rw[m2low g (hold g a1)];exact a2,by rw[m2low g (hold g a1)];exact a3⟩
    · obtain⟨a1,a2⟩:=hi.root id hid
      exact⟨by rw[hD2];exact .inl a1,by rw[gold id (hold id a1)];exact a2⟩
   have hfr2:∀i,D2 i->¬D i->w.heap.size<=(m2 i).blk:=λi h hn=>by
    rw[hD2]at h
    rcases h with h|⟨j,hj,rfl,hd⟩
    · exact absurd h hn
    · rw[m2new]
      refine hfresh _ hd λh=>?_
      rcases h with⟨h1,_⟩|⟨_,h2⟩
      · omega
      · rw[hL.1]at h2;omega
   refine⟨D2,m2,hcv.symm,hokv,⟨hinv,λi h=>by rw[hD2];exact .inl h,λi h=>m2low i (hold i h),λi h=>?_,by simp only;omega,hx.os,hx.tape,hx.output,hx.size,λk hk _=>hframe k hk,rfl,λi h hn=>.inl (hfr2 i h hn)⟩,hframe,hfr2⟩
   rw[hD2]at h
   rcases h with h|⟨j,hj,rfl,_⟩
   · exact .inl h
   · exact .inr (by omega)
 · exact eb.grown (o1:=⟨news.length,news,[]⟩) hl rfl
end
section
variable{P:Program}{T:eA}{cfg:cx}(g:wm P T cfg){S:bq}(hS:az P cfg S)
include g hS
theorem wm.wsem{f:FuncId}{fn:Func}{c:Code}(hb:aH T f=some (fn,c)){args:List AV}{ws:List aw}(hlen:args.length<=1000){v:AV}{news:List aw}
 (h:bJ P (dX cfg S) (Cw cfg ws) c (ij fn args ⟨0,[],[]⟩) λx=>∃r,qj T (Cw cfg ws) fn x=some r/\Wk cfg (Cw cfg ws) 0 ⟨.node r.1 .nil .nil,1,r.2,[],none⟩ λs=>s.o=⟨news.length,news,[]⟩/\s.ts.get 0=v):bR P cfg f args ws v news:=by
 intro D m w hi hok
 have hi':dQ (dX cfg S) D m (Cw cfg ws) ⟨0,[],[]⟩ w:=dQ.to (cfg:=cfg) (cfg':=dX cfg S) rfl rfl hi
 refine .inl (CP g.tab hb hlen h hi' hok λr D' m' w' hr hv he=>?_)
 have he':dk cfg (Cw cfg ws) D m ⟨0,[],[]⟩ w D' m' r.2 w':=dk.to (cfg:=dX cfg S) (cfg':=cfg) rfl rfl he
 have ht:TR D' m' ⟨.node r.1 .nil .nil,1,r.2,[],none⟩ ⟨#[aj m' r.1],[]⟩:=by
  refine⟨rfl,λt=>?_,λt=>?_,rfl,λd hd=>(by cases hd),λi hi=>(by cases hi)⟩
  · by_cases e:t=0
    · subst e;rfl
    · have h1:(Ts.node r.1 .nil .nil).get t=bj:=by
       rcases Nat.mod_two_eq_zero_or_one t with h2|h2
       · rw[Ts.get_even _ t e h2];exact Ts.get_nil _
       · rw[Ts.get_odd _ t e h2];exact Ts.get_nil _
      rw[h1,gZ]
      simp[Array.getD,e]
  · by_cases e:t=0
    · subst e;exact hv
    · have h1:(Ts.node r.1 .nil .nil).get t=bj:=by
       rcases Nat.mod_two_eq_zero_or_one t with h2|h2
       · rw[Ts.get_even _ t e h2];exact Ts.get_nil _
       · rw[Ts.get_odd _ t e h2];exact Ts.get_nil _
      rw[h1];exact gc
 obtain⟨s,D2,m2,⟨ho,hvs⟩,h1,_,_,h4,h5⟩:=hr D' m' _ w' he'.inv ht
 have hat:=h1.at' 0
 have hok0:=h1.okt 0
 rw[hvs]at hat hok0
 refine⟨D2,m2,by rw[<-hat];rfl,hok0,?_⟩
 have:=h5 D m ⟨0,[],[]⟩ w (Nat.le_refl _) hi.lt he'
 rw[ho]at this
 exact this
end
abbrev dx:Type:=Nat->Option (St->Tr (AX×St))
section
variable{R:Type}
abbrev sD(R:Type):Type:=eA->cx->tD->dx->Nat->kW R->bg->St->(AX×St->Tr R)->Tr R
def Kh:sD R:=λ_ _ _ _ _ _ _ st K=>K (.normal,st)
def V6(a b:Code):sD R:=λ_ _ _ _ _ code C st K=>code C a st λx=>oB (code C b) x K
def Kw(c:Operand)(a b:Code):sD R:=λ_ cfg _ _ _ code C st K=>aV (ea cfg.G st.ts c) (y_ (λc=>code C c st K) a b)
def wT:Code->Bool
 | .loop _=>true
 | _=>false
def AR(id:Nat)(b:Code)(code:kW R)(C:bg)(st:St)(K:AX×St->Tr R)(e:Option (St->Tr (AX×St))):Tr R:=match e with
 | some e=>(e st).then λr=>K (jA id r)
 | none=>code C b st λr=>K (jA id r)
def EK(id:Nat)(b:Code):sD R:=λ_ _ _ L _ code C st K=>bif wT b then AR id b code C st K (L id)else code C b st λr=>K (jA id r)
def Sj(b:Code):sD R:=λ_ _ _ _ _ code C st K=>code C b st λx=>oB (code C (.loop b)) x K
def M6(b:Code):sD R:=λ_ _ _ _ _ code C st K=>code C b st K
def QU(id:Nat):sD R:=λ_ _ _ _ _ _ _ st K=>K (.exit id,st)
def Vt:sD R:=λ_ _ _ _ _ _ _ st K=>K (.ret,st)
def BQ(ops:Array Oper)(draw:Bool):sD R:=λP cfg orcT _ n _ C st K=>
 (qy P cfg (pS P cfg orcT false (pV P cfg orcT n)) C (pS P cfg orcT true (pV P cfg orcT n)) ops draw st .ret).bind λst'=>K (.normal,st')
def QV:sD R:=λ_ _ _ _ _ _ _ _ _=>.fail
def FD:Code->sD R
 | .skip=>Kh
 | .label _=>Kh
 | .seq a b=>V6 a b
 | .cond c a b=>Kw c a b
 | .block id b=>EK id b
 | .loop b=>Sj b
 | .scope b=>M6 b
 | .exit id=>QU id
 | .ret=>Vt
 | .region _ ops draw=>BQ ops draw
 | _=>QV
def q9(P:eA)(cfg:cx)(orcT:tD)(L:dx):Nat->kW R
 | 0,_,_,_,_=>.fail
 | n+1,C,c,st,K=>FD c P cfg orcT L n (q9 P cfg orcT L n) C st K
end
def s8(P:Program)(cfg:cx)(C:bg)(L:dx):Code->Prop
 | .seq a b=>s8 P cfg C L a/\s8 P cfg C L b
 | .cond _ a b=>s8 P cfg C L a/\s8 P cfg C L b
 | .block id b=>(wT b=true->∀e,L id=some e->∀st Q,(e st).wp Q->bJ P cfg C b st Q)/\s8 P cfg C L b
 | .loop b=>s8 P cfg C L b
 | .scope b=>s8 P cfg C L b
 | _=>True
section
variable{P:Program}{T:eA}{cfg:cx}(g:fV P T cfg){orcT:tD}(ho:wP cfg orcT){L:dx}{C:bg}{R:Type}{Q:R->Prop}
include g ho
def Ej(P:Program)(cfg:cx)(C:bg)(n:Nat)(b:Code)(st:St)(Q:AX×St->Prop):Prop:=
 ∀D m a w,dQ cfg D m C st.o w->TR D m st a->∀K:Exit->Act->World->Prop,
  (∀r,Q r->r.2.ro=st.ro->∀D' m' a' w',TR D' m' r.2 a'->dk cfg C D m st.o w D' m' r.2.o w'->K (jz r.1) a' w')->Code.roundsIn (FR (qk m st.ro)) 0 P b K n a w
omit g ho in
theorem CD{n:Nat}{b:Code}{st:St}{Q:AX×St->Prop}(h:bJ P cfg C b st (mK (λs=>Ej P cfg C n b s Q) Q)):Ej P cfg C (n+1) b st Q:=by
 intro D m a w hi ht K hK
 rw[roundsIn_succ]
 refine h D m a w hi ht _ λr hr hro D' m' a' w' ht' he=>?_
 have fr:qk m' r.2.ro=qk m st.ro:=by rw[hro,ot ht.roD he.same]
 unfold mK at hr
 cases hx:r.1 with
 | normal=>
   rw[hx]at hr
   have:=hr D' m' a' w' he.inv ht' K λr2 hr2 hro2 D2 m2 a2 w2 ht2 he2=>hK r2 hr2 (hro2.trans hro) D2 m2 a2 w2 ht2 (he.trans he2)
   rw[fr]at this
   exact this
 | exit id=>rw[hx]at hr;have:=hK r hr hro D' m' a' w' ht' he;rw[hx]at this;exact this
 | ret=>rw[hx]at hr;have:=hK r hr hro D' m' a' w' ht' he;rw[hx]at this;exact this
omit g ho in
theorem FS{n:Nat}{b:Code}{st:St}{Q:AX×St->Prop}(h:Ej P cfg C n b st Q):bJ P cfg C (.loop b) st Q:=λD m a w hi ht K hK=>wpIn_loop_rounds n (h D m a w hi ht K hK)
theorem yR:∀n {c:Code} {st:St} {K:AX×St->Tr R},s8 P cfg C L c->(q9 T cfg orcT L n C c st K).wp Q->(bJ P cfg C c st λx=>(K x).wp Q)/\∀b,c=.loop b->Ej P cfg C n b st λx=>(K x).wp Q
 | 0,c,st,K,hL,h=>h.elim
 | n+1,c,st,K,hL,h=>by
   have ih:=@yR n
   unfold q9 at h
   have thenm:∀{b:Code} {x:AX×St} {K:AX×St->Tr R},s8 P cfg C L b->(oB (q9 T cfg orcT L n C b) x K).wp Q->mK (λs=>bJ P cfg C b s λx=>(K x).wp Q) (λx=>(K x).wp Q) x:=by
    intro b x K hb h
    unfold oB at h
    unfold mK
    cases hx:x.1 with
    | normal=>rw[hx]at h;exact(ih hb h).1
    | exit id=>rw[hx]at h;exact h
    | ret=>rw[hx]at h;exact h
   cases c<;>simp only[FD]at h
   case loop b=>
    have hr:Ej P cfg C (n+1) b st λx=>(K x).wp Q:=by
     refine CD ((ih (c:=b) hL h).1.mono λx hx=>?_)
     unfold oB at hx
     unfold mK
     cases hxe:x.1 with
     | normal=>rw[hxe]at hx;exact(ih (c:=.loop b) hL hx).2 b rfl
     | exit id=>rw[hxe]at hx;exact hx
     | ret=>rw[hxe]at hx;exact hx
    refine⟨FS hr,λb' e=>?_⟩
    cases e
    exact hr
   all_goals refine⟨?_,λb e=>by cases e⟩
   case skip=>exact DR h
   case label=>exact CO h
   case exit=>exact EU h
   case ret=>exact JA h
   case seq a b=>exact HR ((ih hL.1 h).1.mono λx hx=>thenm hL.2 hx)
   case cond c a b=>
    unfold Kw at h
    cases hv:ea cfg.G st.ts c with
    | none=>rw[hv]at h;exact h.elim
    | some v=>
      rw[hv]at h
      have h:(y_ (λc=>q9 T cfg orcT L n C c st K) a b v).wp Q:=h
      unfold y_ at h
      cases v<;>simp only at h<;>first|exact h.elim|skip
      rename_i d
      refine D6 hv (λe=>?_) (λe=>?_)
      · subst e;exact(ih hL.1 h).1
      · subst e;exact(ih hL.2 h).1
   case block id b=>
    unfold EK at h
    refine CJ ?_
    cases hb:wT b with
    | false=>rw[hb]at h;exact(ih hL.2 h).1
    | true=>
      rw[hb,cond_true]at h
      unfold AR at h
      cases he:L id with
      | none=>rw[he]at h;exact(ih hL.2 h).1
      | some e=>rw[he]at h;exact hL.1 hb e he st _ (Tr.wp_then h)
   case scope b=>exact Cy (ih (c:=b) hL h).1
   case region id ops draw=>
    unfold BQ at h
    obtain⟨st',hr,h⟩:=Tr.wp_bind h
    obtain⟨st2,hs,h2⟩:=qg (rnd:=mX (ec T cfg n)) (lJ ho (lP ho n)) (lJ ho (lP ho n)) hr
    cases h2
    refine De g (n:=n+1) (r:=(.normal,st')) ?_ h
    rw[ec,eO,nu]
    simp only[hs,ob]
   all_goals exact h.elim
theorem qE{n:Nat}{c:Code}{st:St}{K:AX×St->Tr R}(hL:s8 P cfg C L c)(h:(q9 T cfg orcT L n C c st K).wp Q):bJ P cfg C c st λx=>(K x).wp Q:=(yR g ho n hL h).1
end
end Go.Ev
