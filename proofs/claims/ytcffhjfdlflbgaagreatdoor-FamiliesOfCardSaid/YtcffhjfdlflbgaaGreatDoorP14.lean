import Derived.Test.YtcffhjfdlflbgaaGreatDoorP13
set_option linter.all false
open List renaming getElem?_eq_getElem->ν,getElem?_append_right->ξ,mem_cons_of_mem->ο,mem_cons_self->ς
open Nat renaming lt_of_lt_of_le->π
set_option linter.all false
set_option maxRecDepth 100000
set_option maxHeartbeats 4000000
namespace Go.Ev
open Go Go.RowKit
variable{r id n kb:Nat}{L:List bv}{l:bv}{ws:List cD}{st:St}{rel:List Nat}{vs':List AV}{o':aB}
def Cw(cfg:cL)(ws:List cD):bg:=⟨[(cfg.a0.n,⟨ws.length,ws.reverse,[]⟩),(0,cfg.a0)],cfg.a0.n+ws.length⟩
structure Aq where
 a0:List Nat
 ws:List cD
 ok:Bool
def xe:fg->fg
 | .b c=>.b c
 | .a _=>.a 0
def nC(f:AV->Aq->Option (AV×Aq)):List AV->Aq->Option (List AV×Aq)
 | [],q=>some ([],q)
 | v::vs,q=>ob (f v q) λp=>ob (nC f vs p.2) λp'=>some (p.1::p'.1,p'.2)
def b_(cs:List AV)(off n:Nat):List AV:=(cs.drop off).take n
def nX(r:Nat)(C:bg)(o:aB):Nat->AV->Aq->Option (AV×Aq)
 | 0,_,_=>none
 | d+1,v,q=>match v with
   | .b id off len c=>(match q.a0 with
     | []=>none
     | sz::szs=>ob (cellsOf (fB C o id)) λcs=>some (.b (r+q.ws.length) 0 len (xe c),⟨szs,q.ws++[.a (b_ cs off (len*sz)) false none],q.ok&&(Nat.ble (off+len*sz) cs.length&&bc r (b_ cs off (len*sz)))⟩))
   | .g cs=>ob (nC (nX r C o d) cs q) λp=>some (.g p.1,p.2)
   | .i f a b=>ob (nC (nX r C o d) a q) λp=>ob (nC (nX r C o d) b p.2) λp'=>some (.i f p.1 p'.1,p'.2)
   | .l t v=>ob (nX r C o d v q) λp=>some (.l t p.1,p.2)
   | .h id off=>ok (aS id r) (some (.h id off,q))
   | .c _=>none
   | .q _=>none
   | .m _=>none
   | v=>some (v,q)
def VV(b b':Nat):Nat->List (Nat×Nat)
 | 0=>[]
 | n+1=>(b+n,b'+n)::VV b b' n
abbrev aav:Type:=List AV->List cD->Option (Tr (AV×List cD))
def TT(r b:Nat)(C:bg)(o:aB)(x:AV×List cD):Tr (AV×aB):=
 aT (kG r (VV b (C.lo+o.n) x.2.length) 20 x.1) λv=>.a0 (v,⟨x.2.length+o.n,x.2++o.os,o.le⟩)
def fl(r:Nat)(szs:List Nat)(e:aav):FG:=λC args o=>
 ob (nC (nX r C o 20) args ⟨szs,[],true⟩) λq=>ob (e q.1 q.2.ws) λt=>some (lu q.2.ok (t.h0 (TT r (r+q.2.ws.length) C o)))
def bu(P:Program)(cfg:cL)(f:FuncId)(args:List AV)(ws:List cD)(v:AV)(news:List cD):Prop:=
 ∀D m w,dX cfg D m (Cw cfg ws) ⟨0,[],[]⟩ w->fM D m args->jV P f (ap m args).toArray w λV w'=>∃D' m',V=aj m' v/\dh D' m' v/\dw cfg (Cw cfg ws) D m ⟨0,[],[]⟩ w D' m' ⟨news.length,news,[]⟩ w'
def XM(P:Program)(cfg:cL)(f:FuncId)(e:aav):Prop:=∀args ws t r,e args ws=some t->t.b0=some r->bu P cfg f args ws r.1 r.2/\∀x∈r.2,cR cfg.a0.n x
theorem C7{b b':Nat}:∀{n i k:Nat},xx (VV b b' n) i=some k->∃j,j<n/\i=b+j/\k=b'+j
 | 0,i,k,h=>by cases h
 | n+1,i,k,h=>by
   rw[VV,xx]at h;by_cases e:b+n=i
   . rw[gm e,cond_true,zAb]at h;exact⟨n,by omega,e.symm,h.symm⟩
   . rw[ic e,cond_false]at h;obtain⟨j,h1,h2,h3⟩:=C7 h;simp_all;omega
section
variable{cfg:cL}{C:bg}{o:aB}{D:Nat->Prop}{m:Nat->bv}{w:World}
def mL(r:Nat)(m:Nat->bv)(L:List bv)(id:Nat):bv:=if id<r then m id else L.getD (id-r) ⟨0,0,0⟩
def DL(r:Nat)(D:Nat->Prop)(L:List bv)(id:Nat):Prop:=(id<r/\D id)\/(r<=id/\id<r+L.length)
theorem oI(h:id<r):mL r m L id=m id:=if_pos h
theorem Lv{j:Nat}(h:L[j]? = some l):mL r m L (r+j)=l:=by
 grind [mL]
def JU(r:Nat)(D:Nat->Prop)(m:Nat->bv)(w:World)(x:cD)(l:bv):Prop:=
 ∃win,x=.a win false none/\bc r win/\fM D m win/\∃c e fz,w.heap[l.a0]? = some (.cells c e fz)/\∀i v,win[i]? = some v->c[l.b0+i]? = some (aj m v)
def M0(r:Nat)(D:Nat->Prop)(m:Nat->bv)(w:World)(L:List bv)(ws:List cD):Prop:=L.length=ws.length/\∀(j:Nat) (x:cD) (l:bv),ws[j]? = some x->L[j]? = some l->JU r D m w x l
theorem M0.a0{x:cD}(h:M0 r D m w L ws)(hx:JU r D m w x l):M0 r D m w (L++[l]) (ws++[x]):=by
 refine⟨by simp[h.1],λj y k hy hk=>?_⟩;by_cases e:j<ws.length
 . rw[List.getElem?_append_left e]at hy;rw[List.getElem?_append_left (by rw[h.1];omega)]at hk;exact h.2 j y k hy hk
 . rw[ξ δ]at hy;rw[ξ (by rw[h.1];omega)]at hk;grind
def Jw(r:Nat)(D:Nat->Prop)(m:Nat->bv)(w:World)(L:List bv)(q q':Aq)(S:List bv->Prop):Prop:=
 ∃L',q.ok/\M0 r D m w (L++L') q'.ws/\∀L'',S ((L++L')++L'')
section
variable(hi:dX cfg D m C o w)
include hi
theorem Bo{d:Nat}(ih:∀{v q v' q'},nX cfg.a0.n C o d v q=some (v',q')->dh D m v->q'.ok->∀L,M0 cfg.a0.n D m w L q.ws->Jw cfg.a0.n D m w L q q' λK=>aj (mL cfg.a0.n m K) v'=aj m v/\dh (DL cfg.a0.n D K) (mL cfg.a0.n m K) v') :
 ∀{vs:List AV} {q:Aq} {vs':List AV} {q':Aq},nC (nX cfg.a0.n C o d) vs q=some (vs',q')->fM D m vs->q'.ok->∀L,M0 cfg.a0.n D m w L q.ws->Jw cfg.a0.n D m w L q q' λK=>ap (mL cfg.a0.n m K) vs'=ap m vs/\fM (DL cfg.a0.n D K) (mL cfg.a0.n m K) vs'
 | [],q,vs',q',h,_,hq,L,hL=>by
   cases h;exact⟨[],hq,by grind,λL''=>⟨by rfl,fQ⟩⟩
 | v::vs,q,vs',q',h,hok,hq,L,hL=>by
   simp only[nC,ag,zAb,Prod.mk.injEq]at h;obtain⟨⟨v1,q1⟩,h1,⟨vs1,q2⟩,h2,rfl,rfl⟩:=h;obtain⟨a1,a2⟩:=fE.1 hok;have hq1:q1.ok=true:=by
    have mono:∀{d:Nat} {v:AV} {q:Aq} {r:AV×Aq},nX cfg.a0.n C o d v q=some r->r.2.ok->q.ok=true:=by
     intro d;induction d with
     | zero=>nofun
     | succ d ihd=>
       have hl:∀{vs:List AV} {q:Aq} {r:List AV×Aq},nC (nX cfg.a0.n C o d) vs q=some r->r.2.ok->q.ok=true:=by
        intro vs;induction vs with
        | nil=>intro q r h hr;cases h;omega
        | cons v vs ihv=>
          intro q r h hr;simp only[nC,ag,zAb]at h;grind
       intro v q r h hr;unfold nX at h;grind [ag,aA]
    have monoL:∀{vs:List AV} {q:Aq} {r:List AV×Aq},nC (nX cfg.a0.n C o d) vs q=some r->r.2.ok->q.ok=true:=by
     intro vs;induction vs with
     | nil=>intro q r h hr;cases h;omega
     | cons v vs ihv=>
       intro q r h hr;simp only[nC,ag,zAb]at h;grind
    grind
   obtain⟨L1,b1,b2,b3⟩:=ih h1 a1 hq1 L hL;obtain⟨L2,c1,c2,c3⟩:=Bo ih h2 a2 hq _ b2;refine⟨L1++L2,b1,by grind,λL''=>?_⟩;grind [ap,fE]
theorem BW:∀{d:Nat} {v:AV} {q:Aq} {v':AV} {q':Aq},nX cfg.a0.n C o d v q=some (v',q')->dh D m v->q'.ok->∀L,M0 cfg.a0.n D m w L q.ws->Jw cfg.a0.n D m w L q q' λK=>aj (mL cfg.a0.n m K) v'=aj m v/\dh (DL cfg.a0.n D K) (mL cfg.a0.n m K) v'
 | 0,v,q,v',q',h,_,_,L,hL=>by cases h
 | d+1,v,q,v',q',h,hok,hq,L,hL=>by
   have ihL:=@Bo cfg C o D m w hi d (λ{v q v' q'}=>BW (d:=d) (v:=v) (q:=q) (v':=v') (q':=q'));unfold nX at h;cases v<;>simp only[ag,aA,zAb,reduceCtorEq,Prod.mk.injEq]at h
   case b id off len c=>
    split at h
    . grind
    . rename_i sz szs hsz;simp only[ag,zAb,Prod.mk.injEq]at h;obtain⟨cs,hcs,rfl,rfl⟩:=h;simp only[zAa,eK]at hq;obtain⟨hq1,hle,hbl⟩:=hq;obtain⟨hD,hcap⟩:=hok (id,fi len c) (by simp[aC]);have hobj:=hi.a0 id hD;obtain⟨rw',g,hg⟩:∃rw' g,fB C o id=.a cs rw' g:=by
       unfold cellsOf at hcs;grind
      rw[hg]at hobj;obtain⟨cc,e,fz,hb,hc⟩:=hobj;have win_at:∀i v,(b_ cs off (len*sz))[i]? = some v->cs[off+i]? = some v:=λi v hv=>by
       grind [b_]
      let l:bv:=⟨(m id).a0,(m id).b0+off,match c with|.b _=>0|.a k=>(m id).c0-k⟩
      have hW:JU cfg.a0.n D m w (.a (b_ cs off (len*sz)) false none) l:=
       ⟨_,rfl,hbl,df.2 λv hv=>by
        obtain⟨i,hi'⟩:=List.getElem?_of_mem hv;exact df.1 hc.a0 v (List.mem_of_getElem? (win_at i v hi')),cc,e,fz,hb,λi v hv=>by
        have:=hc.d0 _ v (win_at i v hv);grind⟩
      refine⟨[l],hq1,hL.a0 hW,λL''=>?_⟩;have hj:((L++[l])++L'')[q.ws.length]? = some l:=by
       rw[List.append_assoc,ξ (Nat.le_of_eq hL.1),hL.1];simp
      refine⟨?_,λi hi'=>?_⟩
      . grind [aj,Lv,xe,iR]
      . simp only[aC,List.mem_singleton]at hi';subst hi';refine⟨.inr ⟨by simp,by grind⟩,?_⟩;grind [Lv,xe,fi]
   case g cs=>
    grind [aak,aj]
   case i f a b=>
    obtain⟨⟨a',q1⟩,h1,⟨b',q2⟩,h2,rfl,rfl⟩:=h;have hcat:nC (nX cfg.a0.n C o d) (a++b) q=some (a'++b',q2):=by
     have:∀{xs:List AV} {q q1 q2:Aq} {xs':List AV},nC (nX cfg.a0.n C o d) xs q=some (xs',q1)->nC (nX cfg.a0.n C o d) b q1=some (b',q2)->nC (nX cfg.a0.n C o d) (xs++b) q=some (xs'++b',q2):=by
      intro xs;induction xs with
      | nil=>intro q q1 q2 xs' h1 h2;cases h1;exact h2
      | cons x xs ih=>
        intro q q1 q2 xs' h1 h2;simp only[nC,ag,zAb,Prod.mk.injEq]at h1;obtain⟨p,hp,⟨ys,q3⟩,hp',rfl,rfl⟩:=h1;simp only[List.cons_append,nC,hp,ob,ih hp' h2]
     exact this h1 h2
    obtain⟨L',x1,x2,x3⟩:=ihL hcat (mi.2 ⟨λi hi'=>hok i (by simp[aC,hi']),λi hi'=>hok i (by simp[aC,hi'])⟩) hq L hL;refine⟨L',x1,x2,λL''=>?_⟩;obtain⟨y1,y2⟩:=x3 L'';have hlen:a'.length=a.length:=by
     have:∀{xs:List AV} {q:Aq} {r:List AV×Aq},nC (nX cfg.a0.n C o d) xs q=some r->r.1.length=xs.length:=by
      intro xs;induction xs with
      | nil=>intro q r h;cases h;rfl
      | cons x xs ih=>
        intro q r h;simp only[nC,ag,zAb]at h;obtain⟨p,_,p',hp',rfl⟩:=h;simp[ih hp']
     exact this h1
    rw[mF,mF]at y1;obtain⟨z1,z2⟩:=List.append_inj y1 (by rw[b7,b7,hlen]);obtain⟨u1,u2⟩:=mi.1 y2;refine⟨by simp only[aj];rw[z1,z2],λi hi'=>?_⟩;simp only[aC,List.mem_append]at hi';exact hi'.elim (u1 i) (u2 i)
   case l t u=>
    obtain⟨⟨u',q1⟩,h1,rfl,rfl⟩:=h;obtain⟨L',x1,x2,x3⟩:=BW h1 (λi hi'=>hok i (by simpa [aC]using hi')) hq L hL;exact⟨L',x1,x2,λL''=>⟨by simp only[aj];rw[(x3 L'').1],λi hi'=>(x3 L'').2 i (by simpa [aC]using hi')⟩⟩
   case h id off=>
    obtain⟨h1,rfl,rfl⟩:=h;rw[aU]at h1;refine⟨[],hq,by simpa using hL,λL''=>⟨by simp only[aj,oI h1],λi hi'=>?_⟩⟩;simp only[aC,List.mem_singleton]at hi';subst hi';exact⟨.inl ⟨h1,(hok (id,0) (by simp[aC])).1⟩,by simp⟩
   all_goals
    obtain⟨rfl,rfl⟩:=h;exact⟨[],hq,by simpa using hL,λL''=>⟨by simp[aj],bM (by simp[aC])⟩⟩
end
end
section
variable{cfg:cL}(hK:qX cfg)(hRO:∀id,id<cfg.a0.n->Ep (cfg.a0.at id)=false)
theorem oR{o1:aB}(hle:o1.le=[]):(id<cfg.a0.n->fB (Cw cfg ws) o1 id=cfg.a0.at id)/\(∀j x,ws[j]? = some x->fB (Cw cfg ws) o1 (cfg.a0.n+j)=x)/\(∀j,fB (Cw cfg ws) o1 (cfg.a0.n+ws.length+j)=o1.at j):=by
 refine⟨λh=>?_,λj x hj=>?_,λj=>?_⟩<;>grind [fB,gB,Cw,fp,eK,List.getElem?_eq_some_iff,aB.at]
include hK hRO in
theorem Lk{C:bg}{o:aB}{D:Nat->Prop}{m:Nat->bv}{w:World}(hi:dX cfg D m C o w)(hL:M0 cfg.a0.n D m w L ws) :
 dX cfg (DL cfg.a0.n D L) (mL cfg.a0.n m L) (Cw cfg ws) ⟨0,[],[]⟩ w:=by
 have low:∀v,dh D m v->(∀i∈aC v,i.1<cfg.a0.n)->aj (mL cfg.a0.n m L) v=aj m v/\dh (DL cfg.a0.n D L) (mL cfg.a0.n m L) v:=λv hv hb=>
  ⟨ja v λi hm=>oI (hb i hm),λi hm=>⟨.inl ⟨hb i hm,(hv i hm).1⟩,by rw[oI (hb i hm)];exact(hv i hm).2⟩⟩
 have win:∀j,j<L.length->∃x l,ws[j]? = some x/\L[j]? = some l/\JU cfg.a0.n D m w x l:=λj h=>by
  have h2:j<ws.length:=by rw[<-hL.1];omega
  exact⟨_,_,ν h2,ν h,hL.2 j _ _ (ν h2) (ν h)⟩
 have mvok:Fl cfg.a0.n [] D (DL cfg.a0.n D L) m (mL cfg.a0.n m L):=⟨λi hd h=>⟨.inl ⟨h,hd⟩,oI h⟩,λi j h=>by cases h⟩;refine⟨λid hd=>?_,λi j hdi hdj hij hl hr=>?_,λid hd=>?_,λg hg=>?_,λid hid=>?_,λid hid=>η,by grind [Cw],rfl⟩
 . rcases hd with⟨h1,h2⟩|⟨h1,h2⟩
   . rw[(oR rfl).1 h1,oI h1,<-(hi.b0 id h1).2];exact wv mvok (hi.a0 id h2) ⟨by rw[(hi.b0 id h1).2];exact hK.a0 id h1,λi hm=>by rw[(hi.b0 id h1).2]at hm;exact hK.b0 id h1 i hm⟩
   . obtain⟨j,rfl⟩:∃j,id=cfg.a0.n+j:=⟨id-cfg.a0.n,by omega⟩;obtain⟨x,l,hx,hl,cs,rfl,hbl,hok,c,e,fz,hb,hat⟩:=win j δ;rw[(oR (cfg:=cfg) (id:=0) rfl).2.1 j _ hx,Lv hl];have hlow:∀v∈cs,aj (mL cfg.a0.n m L) v=aj m v/\dh (DL cfg.a0.n D L) (mL cfg.a0.n m L) v:=λv hv=>low v (df.1 hok v hv) λi hm=>abm hbl i (ga.2 ⟨v,hv,hm⟩);exact⟨c,e,fz,hb,⟨λi v hv=>by grind,df.2 λv hv=>(hlow v hv).2,λh=>η,λs h=>η⟩⟩
 . exfalso;rcases hdj with⟨h1,h2⟩|⟨h1,h2⟩
   . grind [oR]
   . obtain⟨k,rfl⟩:∃k,j=cfg.a0.n+k:=⟨j-cfg.a0.n,by omega⟩;obtain⟨x,l,hx,hl',cs,rfl,_⟩:=win k δ;rw[(oR (cfg:=cfg) (id:=0) rfl).2.1 k _ hx]at hr;cases hr
 . rcases hd with⟨h1,h2⟩|⟨h1,h2⟩
   . grind [Cw]
   . have:=hL.1;grind [Cw]
 . obtain⟨a1,a2,a3⟩:=hi.c0 g hg;have:=hK.G;exact⟨.inl ⟨by omega,a1⟩,by grind [oI],by grind [oI]⟩
 . exact⟨.inl ⟨hid,(hi.b0 id hid).1⟩,(oR rfl).1 hid⟩
theorem fW{P:Program}{f:FuncId}{szs:List Nat}{e:aav}(hK:qX cfg)(hRO:∀id,id<cfg.a0.n->Ep (cfg.a0.at id)=false)(h:XM P cfg f e):tD P cfg f (fl cfg.a0.n szs e):=by
 intro C args o t r ht hr;unfold fl at ht;rw[ag]at ht;obtain⟨⟨args',q⟩,hcan,ht⟩:=ht;simp only[ag,zAb]at ht;obtain⟨t0,he,rfl⟩:=ht;obtain⟨hq,hr⟩:=bG hr;obtain⟨⟨v,news⟩,hv,hr⟩:=Tr.g0 hr;obtain⟨hfact,hlow⟩:=h args' q.ws t0 (v,news) he hv;unfold TT at hr;obtain⟨v',hmv,hr⟩:=ar hr;cases hr;simp only at hmv hfact hlow ⊢;refine⟨λD m w hi hok=>?_,λhl=>?_⟩
 . have hW0:M0 cfg.a0.n D m w [] []:=⟨rfl,λj x l hj=>by simp⟩;obtain⟨L',_,hL,hS⟩:=Bo hi (d:=20) (λ{v q v' q'}=>BW hi) hcan hok hq [] hW0;have hS:=hS [];simp only[List.nil_append,List.append_nil]at hL hS;obtain⟨hc,hok'⟩:=hS;rw[<-hc];refine(hfact _ _ w (Lk hK hRO hi hL) hok').a0 ?_;rintro V w' ⟨D',m',rfl,hv',hx⟩;have hlo:=hi.lo;have hframe:∀k,k<w.heap.size->w'.heap[k]? = w.heap[k]? := λk hk=>hx.f0 k hk λi hd ho=>by
    exfalso;have hlt:i<cfg.a0.n+q.ws.length:=by
     rcases hd with⟨h1,_⟩|⟨_,h2⟩
     . omega
     . rw[<-hL.1];omega
    grind [dQ,jT,Cw,fp]
   have hfresh:∀i,D' i->¬DL cfg.a0.n D L' i->w.heap.size<=(m' i).a0:=λi hd hn=>(hx.e0 i hd hn).resolve_right λ⟨j,hj,ho,_⟩=>by
    have hlt:j<cfg.a0.n+q.ws.length:=by
     rcases hj with⟨h1,_⟩|⟨_,h2⟩
     . omega
     . rw[<-hL.1];omega
    grind [dQ,jT,Cw,fp]
   obtain⟨D2,hD2⟩:∃D2:Nat->Prop,D2=λid=>D id\/∃j,j<news.length/\id=C.lo+o.n+j/\D' (cfg.a0.n+q.ws.length+j):=⟨_,rfl⟩;obtain⟨m2,hm2⟩:∃m2:Nat->bv,m2=λid=>if id<C.lo+o.n then m id else m' (cfg.a0.n+q.ws.length+(id-(C.lo+o.n))):=⟨_,rfl⟩
   have m2low:∀i,i<C.lo+o.n->m2 i=m i:=λi h=>by grind
   have m2new:∀j,m2 (C.lo+o.n+j)=m' (cfg.a0.n+q.ws.length+j):=λj=>by
    grind
   have hd'low:∀i,D' i->i<cfg.a0.n->D i/\m' i=m i:=λi hd h=>by
    rcases hx.l0 i hd with h1|h1
    . have:=hx.a0 i h1;rcases h1 with⟨_,h2⟩|⟨h2,_⟩<;>grind [oI]
    grind [Cw]
   have mvok:Fl cfg.a0.n (VV (cfg.a0.n+q.ws.length) (C.lo+o.n) news.length) D' D2 m' m2:=by
    refine⟨λi hd h=>?_,λi j hl hd=>?_⟩<;>grind [C7]
   obtain⟨hcv,hokv⟩:=tG mvok hmv hv';have hnl:news.length=(⟨news.length,news,[]⟩:aB).n:=rfl;have gold:∀i,i<C.lo+o.n->fB C ⟨news.length+o.n,news++o.os,o.le⟩ i=fB C o i:=λi h=>ta (o1:=⟨news.length,news,[]⟩) (o:=o) rfl h;have gnew:∀j,j<news.length->fB C ⟨news.length+o.n,news++o.os,o.le⟩ (C.lo+o.n+j)=(⟨news.length,news,[]⟩:aB).at j:=λj h=>by
    have:=AE (C:=C) (o1:=⟨news.length,news,[]⟩) (o:=o) (i:=C.lo+o.n+j) rfl δ δ;rw[show C.lo+o.n+j-(C.lo+o.n)=j by omega]at this;exact this
   have hold:∀i,D i->i<C.lo+o.n:=hi.lt;have hnew_low:∀j,j<news.length->cR cfg.a0.n ((⟨news.length,news,[]⟩:aB).at j):=λj h=>by
    grind [aB.at]
   have hinv:dX cfg D2 m2 C ⟨news.length+o.n,news++o.os,o.le⟩ w':=by
    have hi':dX cfg D m C o w':=hi.d0 λj hj hlv=>hframe _ ((hi.a0 j hj).a0 hlv);refine⟨λid hd=>?_,λi j hdi hdj hij hl hr=>?_,λid hd=>?_,λg hg=>?_,λid hid=>?_,λid hid=>hi.le id hid,hi.lo,by simp[hi.e0]⟩
    . rw[hD2]at hd;rcases hd with hd|⟨j,hj,rfl,hd⟩
      . rw[gold id (hold id hd),m2low id (hold id hd)];exact(hi'.a0 id hd).b0 (λi h=>by grind) λi h=>m2low i (hold i h)
      . rw[gnew j hj,m2new];have:=hx.b0.a0 _ hd;rw[(oR (cfg:=cfg) (id:=0) rfl).2.2 j]at this;grind [wv]
    . rw[hD2]at hdi hdj;have isnew:∀j,j<news.length->D' (cfg.a0.n+q.ws.length+j)->w.heap.size<=(m' (cfg.a0.n+q.ws.length+j)).a0:=λj hj hd=>hfresh _ hd λh=>by
       rcases h with⟨h1,_⟩|⟨_,h2⟩
       . omega
       . rw[hL.1]at h2;omega
      rcases hdi with hdi|⟨a,ha,rfl,hdi⟩<;>rcases hdj with hdj|⟨b,hb,rfl,hdj⟩
      . rw[gold i (hold i hdi)]at hl;rw[gold j (hold j hdj)]at hr;rw[m2low i (hold i hdi),m2low j (hold j hdj)];exact hi.inj i j hdi hdj hij hl hr
      . rw[gold i (hold i hdi)]at hl;rw[m2low i (hold i hdi),m2new];have h1:=(hi.a0 i hdi).a0 hl;grind
      . rw[gold j (hold j hdj)]at hr;rw[m2low j (hold j hdj),m2new];have h1:=(hi.a0 j hdj).a0 (mY hr);grind
      . rw[gnew a ha]at hl;rw[gnew b hb]at hr;rw[m2new,m2new];refine hx.b0.inj _ _ hdi hdj δ ?_ ?_
        . rw[(oR (cfg:=cfg) (id:=0) rfl).2.2 a];omega
        . rw[(oR (cfg:=cfg) (id:=0) rfl).2.2 b];omega
    . grind
    . obtain⟨a1,a2,a3⟩:=hi.c0 g hg;grind
    . obtain⟨a1,a2⟩:=hi.b0 id hid;grind
   have hfr2:∀i,D2 i->¬D i->w.heap.size<=(m2 i).a0:=λi h hn=>by
    rw[hD2]at h;rcases h with h|⟨j,hj,rfl,hd⟩
    . grind
    . rw[m2new];refine hfresh _ hd λh=>?_;rcases h with⟨h1,_⟩|⟨_,h2⟩
      . omega
      . rw[hL.1]at h2;omega
   refine⟨D2,m2,hcv.symm,hokv,⟨hinv,λi h=>by grind,λi h=>m2low i (hold i h),λi h=>?_,by simp,hx.os,hx.j0,hx.c0,hx.i0,λk hk _=>hframe k hk,rfl,λi h hn=>.inl (hfr2 i h hn)⟩,λ_=>⟨hframe,hfr2⟩⟩;grind
 . exact fh.f0 (o1:=⟨news.length,news,[]⟩) hl rfl
end
section
variable{P:Program}{T:fm}{cfg:cL}(g:xS P T cfg){S:aQ}(hS:ak P cfg S)
include g hS
theorem xS.c0{f:FuncId}{fn:Func}{c:Code}(hb:ec T f=some (fn,c)){args:List AV}(hlen:args.length<=1000){v:AV}{news:List cD}
 (h:bN P (cH cfg S) (Cw cfg ws) c (jS fn args ⟨0,[],[]⟩) λx=>∃r,wj T (Cw cfg ws) fn x=some r/\Wk cfg (Cw cfg ws) 0 ⟨.c0 r.1 .a0 .a0,1,r.2,[],none⟩ λs=>s.o=⟨news.length,news,[]⟩/\s.ts.b0 0=v):bu P cfg f args ws v news:=by
 intro D m w hi hok;have hi':dX (cH cfg S) D m (Cw cfg ws) ⟨0,[],[]⟩ w:=dX.to (cfg:=cfg) (cfg':=cH cfg S) rfl rfl hi;refine .inl (HX g.e0 hb hlen h hi' hok λr D' m' w' hr hv he=>?_);have he':dw cfg (Cw cfg ws) D m ⟨0,[],[]⟩ w D' m' r.2 w':=dw.to (cfg:=cH cfg S) (cfg':=cfg) rfl rfl he;have ht:TR D' m' ⟨.c0 r.1 .a0 .a0,1,r.2,[],none⟩ ⟨#[aj m' r.1],[]⟩:=by
  refine⟨rfl,λt=>?_,λt=>?_,rfl,λd hd=>η,λi hi=>η⟩
  . by_cases e:t=0
    . subst e;rfl
    . have h1:(Ts.c0 r.1 .a0 .a0).b0 t=bt:=by
       rcases Nat.mod_two_eq_zero_or_one t with h2|h2
       . rw[Ts.d0 _ t e h2];exact Ts.g0 _
       . rw[Ts.f0 _ t e h2];exact Ts.g0 _
      rw[h1,sx];simp[Array.getD,e]
  . by_cases e:t=0
    . subst e;exact hv
    . have h1:(Ts.c0 r.1 .a0 .a0).b0 t=bt:=by
       rcases Nat.mod_two_eq_zero_or_one t with h2|h2
       . rw[Ts.d0 _ t e h2];exact Ts.g0 _
       . rw[Ts.f0 _ t e h2];exact Ts.g0 _
      rw[h1];exact iy
 obtain⟨s,D2,m2,⟨ho,hvs⟩,h1,_,_,h4,h5⟩:=hr D' m' _ w' he'.b0 ht;have hat:=h1.d0 0;have hok0:=h1.c0 0;rw[hvs]at hat hok0;refine⟨D2,m2,by rw[<-hat];rfl,hok0,?_⟩;have:=h5 D m ⟨0,[],[]⟩ w (Nat.le_refl _) hi.lt he';rw[ho]at this;exact this
end
abbrev cx:Type:=Nat->Option (St->Tr (AX×St))
section
variable{R:Type}
abbrev xi(R:Type):Type:=fm->cL->zy->cx->Nat->ol R->bg->St->(AX×St->Tr R)->Tr R
def PJ:xi R:=λ_ _ _ _ _ _ _ st K=>K (.a,st)
def Yv(a b:Code):xi R:=λ_ _ _ _ _ code C st K=>code C a st λx=>rK (code C b) x K
def Pe(c:Operand)(a b:Code):xi R:=λ_ cfg _ _ _ code C st K=>aT (fj cfg.G st.ts c) (CG (λc=>code C c st K) a b)
def BB:Code->Bool
 | .loop _=>true
 | _=>false
def Hw(id:Nat)(b:Code)(code:ol R)(C:bg)(st:St)(K:AX×St->Tr R)(e:Option (St->Tr (AX×St))):Tr R:=match e with
 | some e=>(e st).l0 λr=>K (lQ id r)
 | none=>code C b st λr=>K (lQ id r)
def I5(id:Nat)(b:Code):xi R:=λ_ _ _ L _ code C st K=>bif BB b then Hw id b code C st K (L id)else code C b st λr=>K (lQ id r)
def TW(b:Code):xi R:=λ_ _ _ _ _ code C st K=>code C b st λx=>rK (code C (.loop b)) x K
def Qm(b:Code):xi R:=λ_ _ _ _ _ code C st K=>code C b st K
def UP(id:Nat):xi R:=λ_ _ _ _ _ _ _ st K=>K (.b id,st)
def Zx:xi R:=λ_ _ _ _ _ _ _ st K=>K (.c,st)
def Ge(ops:Array Oper)(draw:Bool):xi R:=λP cfg orcT _ n _ C st K=>
 (wO P cfg (abQ P cfg orcT false (rx P cfg orcT n)) C (ad_ (rx P cfg orcT n)) (abQ P cfg orcT true (rx P cfg orcT n)) ops draw st .a0).h0 λst'=>K (.a,st')
def ah8(g:Operand)(ps:Array Tmp)(assign body:Code):xi R:=λP cfg orcT _ n _ C st K=>(adZ g ps assign body P cfg orcT (rx P cfg orcT n) C st .a0).h0 K
def Uv:xi R:=λ_ _ _ _ _ _ _ _ _=>.c0
def JH:Code->xi R
 | .skip=>PJ
 | .label _=>PJ
 | .seq a b=>Yv a b
 | .cond c a b=>Pe c a b
 | .block id b=>I5 id b
 | .loop b=>TW b
 | .scope b=>Qm b
 | .exit id=>UP id
 | .ret=>Zx
 | .region _ ops draw=>Ge ops draw
 | .rangeFunc g ps assign body=>ah8 g ps assign body
 | _=>Uv
def xz(P:fm)(cfg:cL)(orcT:zy)(L:cx):Nat->ol R
 | 0,_,_,_,_=>.c0
 | n+1,C,c,st,K=>JH c P cfg orcT L n (xz P cfg orcT L n) C st K
end
def qI(P:Program)(cfg:cL)(C:bg)(L:cx):Code->Prop
 | .seq a b=>qI P cfg C L a/\qI P cfg C L b
 | .cond _ a b=>qI P cfg C L a/\qI P cfg C L b
 | .block id b=>(BB b->∀e,L id=some e->∀st Q,(e st).wp Q->bN P cfg C b st Q)/\qI P cfg C L b
 | .loop b=>qI P cfg C L b
 | .scope b=>qI P cfg C L b
 | _=>True
section
variable{P:Program}{T:fm}{cfg:cL}(g:nG P T cfg){orcT:zy}(ho:Bt cfg orcT){L:cx}{C:bg}{R:Type}{Q:R->Prop}
include g ho
def JW(P:Program)(cfg:cL)(C:bg)(n:Nat)(b:Code)(st:St)(Q:AX×St->Prop):Prop:=
 ∀D m a w,dX cfg D m C st.o w->TR D m st a->∀K:Exit->Act->World->Prop,
  (∀r,Q r->r.2.ro=st.ro->∀D' m' a' w',TR D' m' r.2 a'->dw cfg C D m st.o w D' m' r.2.o w'->K (lH r.1) a' w')->Code.roundsIn (FR (wo m st.ro)) 0 P b K n a w
omit g ho in
theorem Iu{b:Code}{Q:AX×St->Prop}(h:bN P cfg C b st (qg (λs=>JW P cfg C n b s Q) Q)):JW P cfg C (n+1) b st Q:=by
 intro D m a w hi ht K hK;rw[roundsIn_succ];refine h D m a w hi ht _ λr hr hro D' m' a' w' ht' he=>?_;have fr:wo m' r.2.ro=wo m st.ro:=by rw[hro,rh ht.f0 he.a0]
 unfold qg at hr;cases hx:r.1 with
 | a=>
   rw[hx]at hr;have:=hr D' m' a' w' he.b0 ht' K λr2 hr2 hro2 D2 m2 a2 w2 ht2 he2=>hK r2 hr2 (hro2.trans hro) D2 m2 a2 w2 ht2 (he.d0 he2);rw[fr]at this;exact this
 | b id=>rw[hx]at hr;have:=hK r hr hro D' m' a' w' ht' he;rw[hx]at this;exact this
 | c=>rw[hx]at hr;have:=hK r hr hro D' m' a' w' ht' he;rw[hx]at this;exact this
omit g ho in
theorem I6{b:Code}{Q:AX×St->Prop}(h:JW P cfg C n b st Q):bN P cfg C (.loop b) st Q:=λD m a w hi ht K hK=>wpIn_loop_rounds n (h D m a w hi ht K hK)
theorem Dw:∀n {c:Code} {st:St} {K:AX×St->Tr R},qI P cfg C L c->(xz T cfg orcT L n C c st K).wp Q->(bN P cfg C c st λx=>(K x).wp Q)/\∀b,c=.loop b->JW P cfg C n b st λx=>(K x).wp Q
 | 0,c,st,K,hL,h=>h.elim
 | n+1,c,st,K,hL,h=>by
   have ih:=@Dw n;unfold xz at h;have thenm:∀{b:Code} {x:AX×St} {K:AX×St->Tr R},qI P cfg C L b->(rK (xz T cfg orcT L n C b) x K).wp Q->qg (λs=>bN P cfg C b s λx=>(K x).wp Q) (λx=>(K x).wp Q) x:=by
    grind [rK,qg]
   cases c<;>simp only[JH]at h
   case loop b=>
    have hr:JW P cfg C (n+1) b st λx=>(K x).wp Q:=by
     refine Iu ((ih (c:=b) hL h).1.a0 λx hx=>?_);grind [rK,qg]
    grind [I6]
   all_goals refine⟨?_,λb e=>by grind⟩
   case skip=>exact L8 h
   case label=>exact HT h
   case exit=>exact Mq h
   case ret=>exact Nf h
   case seq a b=>exact NW ((ih hL.1 h).1.a0 λx hx=>thenm hL.2 hx)
   case cond c a b=>
    unfold Pe at h;cases hv:fj cfg.G st.ts c with
    | none=>rw[hv]at h;exact h.elim
    | some v=>
      rw[hv]at h;have h:(CG (λc=>xz T cfg orcT L n C c st K) a b v).wp Q:=h;unfold CG at h;cases v<;>simp only at h<;>first|exact h.elim|skip
      rename_i d;refine KA hv (λe=>?_) (λe=>?_)
      . subst e;exact(ih hL.1 h).1
      . subst e;exact(ih hL.2 h).1
   case block id b=>
    unfold I5 at h;refine IZ ?_;cases hb:BB b with
    | false=>rw[hb]at h;exact(ih hL.2 h).1
    | true=>
      rw[hb,cond_true]at h;unfold Hw at h;cases he:L id with
      | none=>rw[he]at h;exact(ih hL.2 h).1
      | some e=>rw[he]at h;exact hL.1 hb e he st _ (Tr.i0 h)
   case scope b=>exact H1 (ih (c:=b) hL h).1
   case region id ops draw=>
    unfold Ge at h;obtain⟨st',hr,h⟩:=Tr.k0 h;obtain⟨st2,hs,h2⟩:=wd (lZ ho (mq ho n)) (ac6 (mq ho n)) (lZ ho (mq ho n)) hr;cases h2;refine JI g (n:=n+1) (r:=(.a,st')) ?_ h;simp_all [eZ,fN,sD,ob]
   case rangeFunc g' ps assign body=>
    unfold ah8 at h;obtain⟨x,hr,h⟩:=Tr.k0 h;obtain⟨y,hy,h2⟩:=ado (mq ho n) hr;cases h2;refine JI g (n:=n+1) (r:=x) ?_ h;simp_all [eZ,fN]
   all_goals exact h.elim
theorem wE{c:Code}{K:AX×St->Tr R}(hL:qI P cfg C L c)(h:(xz T cfg orcT L n C c st K).wp Q):bN P cfg C c st λx=>(K x).wp Q:=(Dw g ho n hL h).1
end
def tF(J:Nat->Value):Nat->Ts->Ts
 | 0,t=>t
 | n+1,t=>tF J n (Ts.j0 20 t n (.j (J n)))
def iY:List Nat->List AV->Ts->Ts
 | i::is,v::vs,t=>iY is vs (Ts.j0 20 t i v)
 | _,_,t=>t
def tr(tn:Nat)(rel:List Nat)(vals:List AV)(J:Nat->Value)(o:aB):St:=⟨iY rel vals (tF J tn .a0),tn,o,[],none⟩
def jP(st:St):List Nat->List AV
 | []=>[]
 | i::is=>st.ts.b0 i::jP st is
def NK:List Nat->Bool
 | []=>true
 | _=>false
def VN:Option Nat->Bool
 | none=>true
 | _=>false
def Gg{R:Type}(tn:Nat)(rel:List Nat)(K:AX×List AV×aB->Tr R)(r:AX×St):Tr R:=bif Nat.beq r.2.tn tn&&NK r.2.ds then K (r.1,jP r.2 rel,r.2.o)else .c0
abbrev dW:Type:=List AV->aB->Option (Tr (AX×List AV×aB))
def d9(tn:Nat)(rel:List Nat)(vw:dW)(st:St):Tr (AX×St):=
 bif Nat.beq st.tn tn&&NK st.ds&&VN st.ro then aT (vw (jP st rel) st.o) λt=>t.l0 λq=>.f0 λJ=>.a0 (q.1,tr tn rel q.2.1 J q.2.2)else .c0
def cu(P:Program)(cfg:cL)(C:bg)(b:Code)(tn:Nat)(rel:List Nat)(vw:dW):Prop:=
 ∀vs o t Q,vw vs o=some t->t.wp Q->∀J,bN P cfg C (.loop b) (tr tn rel vs J o) λr=>∃ax vs' o' J',Q (ax,vs',o')/\r=(ax,tr tn rel vs' J' o')
theorem G5{J:Nat->Value}:∀{n:Nat} {t:Ts} {i:Nat},n<1000000->(tF J n t).b0 i=if i<n then .j (J i)else t.b0 i
 | 0,t,i,_=>by rfl
 | n+1,t,i,h=>by
   have hk:n<2^20-1:=π δ (by decide:1000000<=2^20-1);rw[tF,G5 δ,Ts.e0 20 _ _ _ _ hk];grind
theorem Hg{f:Nat->AV}:∀{rel:List Nat} {vs:List AV} {t:Ts} {i:Nat},vs.length=rel.length->(∀k,k<rel.length->vs.getD k bt=f (rel.getD k 0))->(∀k∈rel,k<1000000)->(iY rel vs t).b0 i=if i∈rel then f i else t.b0 i
 | [],vs,t,i,_,_,_=>by rfl
 | r::rel,[],t,i,h,_,_=>by grind
 | r::rel,v::vs,t,i,h,hf,hr=>by
   have hk:r<2^20-1:=π (hr r ς) (by decide:1000000<=2^20-1);rw[iY,Hg (f:=f) η (λk hk=>by simpa using hf (k+1) η) (λk hk=>hr k (ο _ hk)),Ts.e0 20 _ _ _ _ hk];grind
theorem qt(st:St):∀rel:List Nat,jP st rel=rel.map st.ts.b0
 | []=>rfl
 | i::is=>by simp[jP,qt st is]
theorem tE{n:Nat}:∀{l:List Nat},nP n l->∀k∈l,k<n
 | [],_,k,hk=>by grind
 | x::xs,h,k,hk=>by
   rw[nP,zAa,aU]at h;rcases List.mem_cons.1 hk with rfl|hk
   . omega
   . exact tE h.2 k hk
section
variable{cfg:cL}{C:bg}
theorem BE{k tn:Nat}(ht:tn<1000000)(hrel:nP tn rel)(h1:st.tn=tn)(h2:st.ds=[])(h3:st.ro=none) :
 Wk cfg C k st λs=>∃J,s=tr tn rel (jP st rel) J st.o:=by
 intro D m a w hi htr;have hr:∀k∈rel,k<tn:=tE hrel;have hget:∀i,(iY rel (jP st rel) (tF (λt=>aj m (st.ts.b0 t)) tn .a0)).b0 i=if i∈rel then st.ts.b0 i else if i<tn then .j (aj m (st.ts.b0 i))else bt:=λi=>by
  rw[Hg (f:=st.ts.b0) (by rw[qt];simp) (λk hk=>by grind [qt]) (λk hk=>Nat.lt_trans (hr k hk) ht),G5 ht,Ts.g0]
 refine⟨tr tn rel (jP st rel) (λt=>aj m (st.ts.b0 t)) st.o,D,m,⟨_,rfl⟩,⟨by rw[htr.b0,h1];rfl,λt=>?_,λt=>?_,by rw[htr.a0,h2];rfl,λd hd=>(by cases hd),λi hi=>(by cases hi)⟩,h3.symm,by rw[h3];rfl,hi,λ_ _ _ _ _ _ h=>h⟩
 . show a.tmps.getD t undef=aj m ((iY rel (jP st rel) (tF (λt=>aj m (st.ts.b0 t)) tn .a0)).b0 t);rw[hget t];split
   . exact htr.d0 t
   . split
     . simp only[aj];exact htr.d0 t
     . rename_i h;rw[sx];have hs:=htr.b0;grind
 . show dh D m ((iY rel (jP st rel) (tF (λt=>aj m (st.ts.b0 t)) tn .a0)).b0 t);rw[hget t];split
   . exact htr.c0 t
   . split<;>nofun
def VW(cfg:cL)(C:bg)(kb tn:Nat)(rel:List Nat)(vs:List AV)(o:aB)(vs':List AV)(o':aB):Prop:=∀J,Wk cfg C kb (tr tn rel vs J o) λs=>∃J',s=tr tn rel vs' J' o'
theorem VW.a0{tn:Nat}{vs:List AV}{o:aB}:VW cfg C kb tn rel vs o vs o:=λJ=>Wk.a0 ⟨J,rfl⟩
theorem VW.b0{tn:Nat}{vs:List AV}{o:aB}(h1:vs=vs')(h2:o=o'):VW cfg C kb tn rel vs o vs' o':=by grind [VW.a0]
inductive sK:List AV->List AV->Prop
 | nil:sK [] []
 | same {v:AV} {vs vs':List AV}:sK vs vs'->sK (v::vs) (v::vs')
 | int {k:IntKind} {n:Int} {vs vs':List AV}:sK vs vs'->sK (.a k n::vs) (.j (.int k n)::vs')
 | bool {b:Bool} {vs vs':List AV}:sK vs vs'->sK (.e b::vs) (.j (.bool b)::vs')
 | str {s:List UInt8} {vs vs':List AV}:sK vs vs'->sK (.f s::vs) (.j (.string ⟨⟨s⟩⟩)::vs')
 | any {v:AV} {c:Value} {vs vs':List AV}:(∀m,aj m v=c)->sK vs vs'->sK (v::vs) (.j c::vs')
theorem sK.ok{D:Nat->Prop}{m:Nat->bv}:∀{vs vs':List AV},sK vs vs'->vs.length=vs'.length/\∀i,aj m (vs'.getD i bt)=aj m (vs.getD i bt)/\(dh D m (vs.getD i bt)->dh D m (vs'.getD i bt)):=by
 intro vs vs' h;have step:∀{v v':AV} {vs vs':List AV},aj m v'=aj m v->(dh D m v->dh D m v')->(vs.length=vs'.length/\∀i,aj m (vs'.getD i bt)=aj m (vs.getD i bt)/\(dh D m (vs.getD i bt)->dh D m (vs'.getD i bt)))->((v::vs).length=(v'::vs').length/\∀i,aj m ((v'::vs').getD i bt)=aj m ((v::vs).getD i bt)/\(dh D m ((v::vs).getD i bt)->dh D m ((v'::vs').getD i bt))):=by
  intro v v' vs vs' h1 h2 h3;refine⟨by grind,λi=>?_⟩;cases i<;>simp_all
 have nid:∀{c:Value},dh D m (.j c):=bM κ;induction h with
 | nil=>simp
 | same _ ih=>grind
 | int _ ih=>exact step κ (λ_=>nid) ih
 | bool _ ih=>exact step κ (λ_=>nid) ih
 | str _ ih=>exact step κ (λ_=>nid) ih
 | any hc _ ih=>exact step (by grind [aj]) (λ_=>nid) ih
theorem Gn{R:AV->AV->Prop}:∀{rel:List Nat} {vs vs':List AV} {t t':Ts},vs.length=vs'.length->(∀i,R (vs.getD i bt) (vs'.getD i bt))->(∀i,R (t.b0 i) (t'.b0 i))->(∀k∈rel,k<1000000)->∀i,R ((iY rel vs t).b0 i) ((iY rel vs' t').b0 i)
 | [],vs,vs',t,t',hl,hv,h,_,i=>by cases vs<;>cases vs'<;>exact h i
 | r::rel,[],[],t,t',hl,hv,h,_,i=>h i
 | r::rel,v::vs,v'::vs',t,t',hl,hv,h,hr,i=>by
   have hk:r<2^20-1:=π (hr r ς) (by decide:1000000<=2^20-1);refine Gn (rel:=rel) (vs:=vs) (vs':=vs') η (λi=>hv (i+1)) (λi=>?_) (λk hk=>hr k (ο _ hk)) i;rw[Ts.e0 20 _ _ _ _ hk,Ts.e0 20 _ _ _ _ hk];split
   . exact hv 0
   grind
 | r::rel,[],_::_,_,_,hl,_,_,_,_=>by grind
 | r::rel,_::_,[],_,_,hl,_,_,_,_=>by grind
theorem VW.c0{tn:Nat}{vs:List AV}{o:aB}(h:sK vs vs')(hrel:nP 1000000 rel):VW cfg C kb tn rel vs o vs' o:=by
 intro J D m a w hi ht;obtain⟨h1,h2⟩:=h.ok (D:=D) (m:=m);have key:=Gn (R:=λv v'=>aj m v'=aj m v/\(dh D m v->dh D m v')) (rel:=rel) (t:=tF J tn .a0) (t':=tF J tn .a0) h1 h2 (λi=>⟨rfl,id⟩) (tE hrel);refine⟨tr tn rel vs' J o,D,m,⟨J,rfl⟩,⟨ht.b0,λt=>?_,λt=>(key t).2 (ht.c0 t),ht.a0,ht.e0,ht.f0⟩,rfl,rfl,hi,λ_ _ _ _ _ _ h=>h⟩;exact(ht.d0 t).trans (key t).1.symm
theorem wL{f:AV->Option AV}(hu:f bt=some bt){v v':AV}(hv:f v=some v'):∀{d:Nat} {t t':Ts} {i:Nat},xB f t=some t'->xB f (Ts.j0 d t i v)=some (Ts.j0 d t' i v')
 | 0,t,t',i,h=>h
 | d+1,t,t',i,h=>by
   have parts:f t.n0=some t'.n0/\xB f t.m0=some t'.m0/\xB f t.h0=some t'.h0:=by
    cases t with
    | a0=>cases h;exact⟨hu,rfl,rfl⟩
    | c0 x l r=>
      simp only[xB,ag,zAb]at h;obtain⟨x',hx,l',hl,r',hr,rfl⟩:=h;exact⟨hx,hl,hr⟩
   obtain⟨p1,p2,p3⟩:=parts;unfold Ts.j0;cases Nat.beq i 0 with
   | true=>grind [xB,ob]
   | false=>
     simp only[cond_false];cases Nat.beq (i%2) 1 with
     | true=>simp only[cond_true,xB,p1,wL hu hv (d:=d) p2,p3,ob]
     | false=>simp only[cond_false,xB,p1,wL hu hv (d:=d) p3,p2,ob]
theorem GI{f:AV->Option AV}(hu:f bt=some bt)(ha:∀v,f (.j v)=some (.j v)){J:Nat->Value}:∀{n:Nat} {t:Ts},xB f t=some t->xB f (tF J n t)=some (tF J n t)
 | 0,t,h=>h
 | n+1,t,h=>GI (n:=n) (t:=Ts.j0 20 t n (.j (J n))) hu ha (wL hu (ha (J n)) h)
theorem F3{f:AV->Option AV}(hu:f bt=some bt):∀{rel:List Nat} {vs vs':List AV} {t t':Ts},yw f vs=some vs'->xB f t=some t'->xB f (iY rel vs t)=some (iY rel vs' t')
 | [],vs,vs',t,t',_,h=>by cases vs<;>cases vs'<;>exact h
 | r::rel,[],vs',t,t',hv,h=>by cases hv;exact h
 | r::rel,v::vs,vs',t,t',hv,h=>by
   simp only[yw,ag,zAb]at hv;obtain⟨v1,h1,vs1,h2,rfl⟩:=hv;exact F3 (rel:=rel) (vs:=vs) (vs':=vs1) hu h2 (wL hu h1 h)
theorem VW.d0(hK:qX cfg){tn:Nat}{sel:List Nat}{vs:List AV}{o:aB}(hlow:Ns C)(hkb:kb<=o.n)
 (hsel:∀s∈sel,kb<=s/\s<o.n) (hnd:sel.Nodup)
 (hle:∀p∈o.le,cR (C.lo+kb) p.2) (hle':o'.le=o.le) (hn:o'.n=kb+sel.length) (hlen:o'.os.length=o'.n)
 (hold:∀i,i<kb->o'.at i=o.at i/\cR (C.lo+kb) (o.at i))
 (hnew:∀t,t<sel.length->WD (C.lo+kb) (eM C.lo kb sel) (o.at (sel.getD t 0)) (o'.at (kb+t)))
 (hvs:yw (kG (C.lo+kb) (eM C.lo kb sel) 20) vs=some vs'):VW cfg C kb tn rel vs o vs' o':=by
 intro J;have hts:xB (kG (C.lo+kb) (eM C.lo kb sel) 20) (tr tn rel vs J o).ts=some (iY rel vs' (tF J tn .a0)):=F3 (f:=kG (C.lo+kb) (eM C.lo kb sel) 20) (rel:=rel) rfl hvs (GI (f:=kG (C.lo+kb) (eM C.lo kb sel) 20) (n:=tn) (t:=.a0) rfl (λ_=>rfl) rfl);refine(oX hK (st:=tr tn rel vs J o) hlow hkb hsel hnd hle hle' hn hlen hold hnew hts (λd hd=>by cases hd) (λi hi=>by cases hi)).b0 λs hs=>⟨J,?_⟩;rw[hs];rfl
end
section
variable{P:Program}{T:fm}{cfg:cL}(g:nG P T cfg){orcT:zy}(ho:Bt cfg orcT){L:cx}{C:bg}
include g ho
theorem IS{tn:Nat}{b:Code}(htn:tn<1000000)(hrel:nP tn rel)(hL:qI P cfg C L b){ι:Type}(vals:ι->List AV)(own:ι->aB)(μ:ι->Nat)(hkb:∀x,kb<=(own x).n){Q:AX×List AV×aB->Prop}
 (hr:∀x J,(xz T cfg orcT L n C b (tr tn rel (vals x) J (own x)) (Gg tn rel .a0)).wp λq=>match q.1 with
   | .a=>∃y,μ y<μ x/\VW cfg C kb tn rel q.2.1 q.2.2 (vals y) (own y)
   | ax=>∃vs2 o2,VW cfg C kb tn rel q.2.1 q.2.2 vs2 o2/\Q (ax,vs2,o2)) {vs:List AV} {o:aB} (hk:o.n<=kb) (h0:∀J,Wk cfg C kb (tr tn rel vs J o) λs=>∃x J',s=tr tn rel (vals x) J' (own x)) (J:Nat->Value) :
 bN P cfg C (.loop b) (tr tn rel vs J o) λr=>∃ax vs' o' J',Q (ax,vs',o')/\r=(ax,tr tn rel vs' J' o'):=by
 have hnone:∀{r:AX×St} {s:St},r.2.ro=s.ro->s.ro=none->r.2.ro=none:=λh1 h2=>h1.trans h2;refine Lt (k:=kb) (Q':=λr=>(∃vs2 o2,VW cfg C kb tn rel (jP r.2 rel) r.2.o vs2 o2/\Q (r.1,vs2,o2))/\r.2.tn=tn/\r.2.ds=[]/\r.2.ro=none) ?_ hk ?_
 . refine JK (k:=kb) μ (λx s=>∃J',s=tr tn rel (vals x) J' (own x)) (h0 J) hk ?_;rintro x s ⟨J1,rfl⟩;have hs:=wE g ho hL (hr x J1);have hs2:bN P cfg C b (tr tn rel (vals x) J1 (own x)) λr=>r.2.ro=none/\(Gg tn rel Tr.a0 r).wp λq=>match q.1 with
    | .a=>∃y,μ y<μ x/\VW cfg C kb tn rel q.2.1 q.2.2 (vals y) (own y)
    | ax=>∃vs2 o2,VW cfg C kb tn rel q.2.1 q.2.2 vs2 o2/\Q (ax,vs2,o2):=λD m a w hi ht K hK=>hs D m a w hi ht K λr hq hro=>hK r ⟨hro,hq⟩ hro
   refine hs2.a0 λr ⟨hro,hq⟩=>?_;unfold Gg at hq;cases hb:(Nat.beq r.2.tn tn&&NK r.2.ds)with
   | false=>rw[hb]at hq;exact hq.elim
   | true=>
     rw[hb,cond_true]at hq;rw[zAa,cQ]at hb;have hds:r.2.ds=[]:=by
      have:=hb.2;cases hd:r.2.ds with
      | nil=>rfl
      | cons x xs=>rw[hd]at this;cases this
     simp only[Tr.wp]at hq;unfold qg;cases hx:r.1 with
     | a=>
       rw[hx]at hq;obtain⟨y,hy,hv⟩:=hq;refine(BE htn hrel hb.1 hds hro).c0 λs=>?_;rintro⟨J2,rfl⟩;exact(hv J2).b0 λs2 ⟨J3,e⟩=>⟨y,hy,J3,e⟩
     | b id=>grind
     | c=>grind
 . rintro r ⟨⟨vs2,o2,hv,hq⟩,h1,h2,h3⟩;refine(BE htn hrel h1 h2 h3).c0 λs=>?_;rintro⟨J2,rfl⟩;exact(hv J2).b0 λs ⟨J3,e⟩=>⟨_,_,_,J3,hq,by rw[e]⟩
omit ho in
theorem bR{b:Code}{tn:Nat}{vw:dW}(htn:tn<1000000)(hrel:nP tn rel)(h:cu P cfg C b tn rel vw){Q:AX×St->Prop}(hw:(d9 tn rel vw st).wp Q):bN P cfg C (.loop b) st Q:=by
 unfold d9 at hw;cases hb:(Nat.beq st.tn tn&&NK st.ds&&VN st.ro)with
 | false=>rw[hb]at hw;exact hw.elim
 | true=>
   rw[hb,cond_true]at hw;rw[zAa,zAa,cQ]at hb;have hds:st.ds=[]:=by
    have:=hb.1.2;cases hd:st.ds with
    | nil=>rfl
    | cons x xs=>rw[hd]at this;cases this
   have hro:st.ro=none:=by
    have:=hb.2;cases hd:st.ro with
    | none=>rfl
    | some x=>rw[hd]at this;cases this
   cases hv:vw (jP st rel) st.o with
   | none=>rw[hv]at hw;exact hw.elim
   | some t=>
     rw[hv]at hw;have hw:=Tr.i0 (t:=t) hw;refine Np (k:=st.o.n) (BE htn hrel hb.1.1 hds hro) (Nat.le_refl _) λs=>?_;rintro⟨J,rfl⟩;refine(h _ _ t _ hv hw J).a0 ?_;rintro r ⟨ax,vs',o',J',hq,rfl⟩;exact hq J'
end
def bz:Code->List (Nat×Code)
 | .seq a b=>bz a++bz b
 | .cond _ a b=>bz a++bz b
 | .block id b=>match b with
   | .loop c=>(id,c)::bz c
   | b=>bz b
 | .loop b=>bz b
 | .scope b=>bz b
 | _=>[]
theorem lS{P:Program}{cfg:cL}{C:bg}{L:cx}:∀{c:Code},(∀p∈bz c,∀e,L p.1=some e->∀st Q,(e st).wp Q->bN P cfg C (.loop p.2) st Q)->qI P cfg C L c
 | .seq a b,h=>by
   simp only[bz,List.mem_append]at h;exact⟨lS λp hp=>h p (.inl hp),lS λp hp=>h p (.inr hp)⟩
 | .cond _ a b,h=>by
   simp only[bz,List.mem_append]at h;exact⟨lS λp hp=>h p (.inl hp),lS λp hp=>h p (.inr hp)⟩
 | .block id b,h=>by
   have hl:∀c,b=.loop c->qI P cfg C L (.block id b):=by
    rintro c rfl;simp only[bz]at h;exact⟨λ_ e he st Q hw=>h (id,c) ς e he st Q hw,lS (c:=c) λp hp=>h p (ο _ hp)⟩
   cases b with
   | loop c=>grind
   | _=>exact⟨λhb=>(by cases hb),lS (by simpa only[bz]using h)⟩
 | .loop b,h=>lS (c:=b) (by simp_all [bz];omega)
 | .scope b,h=>lS (c:=b) (by simp_all [bz];omega)
 | .skip,_=>trivial
 | .region _ _ _,_=>trivial
 | .exit _,_=>trivial
 | .label _,_=>trivial
 | .goto _,_=>trivial
 | .ret,_=>trivial
 | .refuse _,_=>trivial
 | .rangeFunc _ _ _ _,_=>trivial
end Go.Ev
