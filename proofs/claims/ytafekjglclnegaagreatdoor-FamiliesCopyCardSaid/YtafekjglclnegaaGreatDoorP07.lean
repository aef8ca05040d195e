import Derived.RangeFuncIn
import Derived.RangeFuncSeq
import Derived.Test.YtafekjglclnegaaGreatDoorP06
set_option linter.all false
namespace Go.Ev
open Go Go.RowKit
theorem u_(newLen:Nat):∀(r c:Nat),Builtin.growBy newLen r c<=2^r*(c+768)
 | 0,c=>by simp[Builtin.growBy]
 | r+1,c=>by
   have hp:2^(r+1)=2*2^r:=by rw[Nat.pow_succ];omega
   have h1:0<2^r:=Nat.two_pow_pos r
   unfold Builtin.growBy
   split
   · rw[hp,Nat.mul_assoc]
     have:1*(c+768)<=2^r*(c+768):=Nat.mul_le_mul_right _ h1
     omega
   · refine Nat.le_trans (u_ newLen r _) ?_
     rw[hp,Nat.mul_comm 2,Nat.mul_assoc]
     exact Nat.mul_le_mul_left _ (by omega)
theorem z6{need cap:Nat}(h:cap<need)(hn:need<=1000000):Builtin.nextslicecap need cap<=20000000:=by
 unfold Builtin.nextslicecap
 split
 · omega
 · split
   · omega
   · refine Nat.le_trans (u_ need 4 cap) ?_
     omega
theorem dk.again{cfg:cx}{C:bg}{D:Nat->Prop}{m:Nat->bo}{o:aC}{w w':World}(h:dQ cfg D m C o w){x:aw}{l:bo}{id:Nat}(hd:D id)(ho:(dP C o id).isSome=true)(hl:l.blk=(m id).blk)
 (hlv:∀j,D j->ls (get C o j)=true->(m j).blk≠(m id).blk) (hw:∀k,k≠(m id).blk->w'.heap[k]? = w.heap[k]?) (hsz:w.heap.size<=w'.heap.size) (hx:cH D m l x w'.heap[l.blk]?)
 (hos:w'.os=w.os) (ht:w'.tape=w.tape) (hu:w'.output=w.output) :
 dk cfg C D m o w (q5 D (C.lo+o.n)) (tT m (C.lo+o.n) l) (o.push x) w':=by
 have h':dQ cfg D m C o w':=h.world λj hj hlj=>hw _ (hlv j hj hlj)
 refine⟨h'.push (λj hj hlj=>by rw[hl];exact hlv j hj hlj) hx,λi hi=>.inl hi,λi hi=>?_,?_,by simp[aC.push],hos,ht,hu,hsz,λk _ hn=>hw k (λe=>hn id hd ho e.symm),rfl,?_⟩
 · have:=h.lt i hi;exact mW (by omega)
 · rintro i (hi|rfl)
   · exact .inl hi
   · exact .inr (Nat.le_refl _)
 · rintro i (hi|rfl) hn
   · exact absurd hi hn
   · rw[eN];exact .inr ⟨id,hd,ho,hl.symm⟩
section
variable{P:Program}{T:eA}(hT:eE P T){cfg:cx}{C:bg}{D:Nat->Prop}{m:Nat->bo}{o:aC}{w:World}(hi:dQ cfg D m C o w)
include hT hi
omit hT in
theorem iW{size n:Nat}{x:AV}{cs:List AV}(hx:cY D m x)(h:io C o size n x=some cs):(Builtin.firstCells size n (aj m x)).run P w=.ok (ar m cs).toArray w/\eI D m cs:=by
 cases x<;>simp only[io,reduceCtorEq,ay,Option.some.injEq]at h
 · rename_i s
   obtain⟨hn,rfl⟩:=h
   refine⟨?_,dy.2 (λv hm=>by obtain⟨b,_,rfl⟩:=List.mem_map.1 hm;exact bQ (by simp[hH,aq]))⟩
   simp only[aj,Builtin.firstCells,Sem.run_pure]
   congr 1
   apply Array.toList_inj.1
   simp[ByteArray.data_extract,eB,hH,aj,Function.comp_def]
 · rename_i id off len c
   have hd:D id:=(hx (id,d6 len c) (by simp[aq])).1
   obtain⟨hn,h⟩:=h
   simp only[jG,ag]at h
   obtain⟨cs0,hc0,h⟩:=h
   obtain⟨h1,h2⟩:=hi.range hd hc0 h P
   exact⟨by simpa [aj,Builtin.firstCells]using h1,h2⟩
 · obtain⟨hn,rfl⟩:=h
   exact⟨by simp[aj,Builtin.firstCells,ar],eL⟩
omit hT hi in
theorem ox{x:AV}{n:Nat}(h:mq x=some n):(Builtin.lenOf (aj m x)).run P w=.ok n w:=by
 cases x<;>simp only[mq,reduceCtorEq,Option.some.injEq]at h<;>subst h<;>simp[aj,Builtin.lenOf]<;>rfl
omit hT hi in
theorem zJ(z:Array Value)(n:Nat):(Builtin.zeroCells z n).size=n*z.size:=by simp[Builtin.zeroCells]
omit hT hi in
theorem sh{size n:Nat}{x:AV}{cs:List AV}(h:io C o size n x=some cs)(hs:∀s,x=.str s->size=1):cs.length=n*size:=by
 cases x<;>simp only[io,reduceCtorEq,ay,Option.some.injEq,bt,cK]at h
 · rename_i s
   obtain⟨hn,rfl⟩:=h
   rw[hs s rfl]
   simp;omega
 · obtain⟨hn,h⟩:=h
   simp only[jG,ag]at h
   obtain⟨cs0,hc0,h⟩:=h
   exact pu h
 · obtain⟨rfl,rfl⟩:=h
   simp
omit hT hi in
theorem yZ{n c:Nat}{l:bo}{k:Nat}(hk:k<=l.cap):cY (q5 D n) (tT m n l) (.slice n 0 k (.rest 0)):=λi hm=>by
 simp only[aq,List.mem_singleton,d6]at hm
 subst hm
 exact⟨pA,by simp only[eN];omega⟩
theorem ni{elem size n sl sc:Nat}{ts:Array TypeId}{ty:TypeId}{s x:AV}{old new:List AV}{z:AV}{t u:TypeId}{base:Option Addr}{inf:TypeInfo}
 (hts:ts[0]? = some t) (htu:ts[1]? = some u) (he:T.und t=some (.slice elem)) (hu:lA T u=true) (hinf:T.inf elem=some inf) (hby:inf.bytes<=100000) (hz:jh T elem=some z) (hsz:fx T elem=some size) (hzl:(bP z).length=size) (h0:0<size)
 (hs:aj m s=.slice base sl sc) (hx:mq x=some n) (hn:¬sl+n<=sc) (hlim:sl+n<=1000000)
 (hold:(Builtin.firstCells size sl (aj m s)).run P w.drew=.ok (ar m old).toArray w.drew) (hnew:(Builtin.firstCells size n (aj m x)).run P w.drew=.ok (ar m new).toArray w.drew)
 (hoo:eI D m old) (hon:eI D m new) (hol:old.length=sl*size) (hnl:new.length=n*size) :
 ∃D' m' w',(Builtin.append_ ts ty #[aj m s,aj m x]).run P w=.ok (aj m' (kV C o size (sl+n) (old++new)).1) w'/\cY D' m' (kV C o size (sl+n) (old++new)).1/\dk cfg C D m o w D' m' (kV C o size (sl+n) (old++new)).2 w':=by
 have hcap:=yd w (sl+n) sc elem (by omega)
 obtain⟨d,hd,hdi⟩:∃d,T.und u=some d/\∀k,d≠.int k:=by
  unfold lA at hu
  split at hu
  · cases hu
  · rename_i d hne hd
    exact⟨d,hd,λk e=>hne k e⟩
  · cases hu
 obtain⟨hz1,hz2⟩:=jO hT (m:=m) hz w.drew
 have hok:eI D m (old++new):=dT.2 ⟨hoo,hon⟩
 have hrest:(Builtin.zeroCells (ar m (bP z)).toArray (grownCap w (sl+n) sc elem-(sl+n))).size=(grownCap w (sl+n) sc elem-(sl+n))*size:=by
  rw[zJ];simp[bZ,hzl]
 have hsize:((ar m old).toArray++(ar m new).toArray++Builtin.zeroCells (ar m (bP z)).toArray (grownCap w (sl+n) sc elem-(sl+n))).size=grownCap w (sl+n) sc elem*size:=by
  simp only[Array.size_append,hrest,List.size_toArray,bZ,hol,hnl]
  rw[<-Nat.add_mul,<-Nat.add_mul]
  congr 1;omega
 have hext:=dk.fresh1 hi (.cells (old++new) true (some size)) ⟨w.heap.size,0,grownCap w (sl+n) sc elem⟩ (.cells ((ar m old).toArray++(ar m new).toArray++Builtin.zeroCells (ar m (bP z)).toArray (grownCap w (sl+n) sc elem-(sl+n))) elem) (w0:=w.drew) rfl rfl rfl rfl rfl
  ⟨_,elem,(0,0),rfl,⟨(λi v hv=>by
   rw[Nat.zero_add,Array.getElem?_append,if_pos (by
    have:=(List.getElem?_eq_some_iff.1 hv).1
    simpa [bZ]using this)]
   have:((ar m old).toArray++(ar m new).toArray)=(ar m (old++new)).toArray:=by rw[jD];simp
   rw[this]
   simp[eS,hv]),hok,(λ_=>rfl),(λs hs=>by cases hs;exact⟨h0,rfl,hsize⟩)⟩⟩
 refine⟨_,_,_,?_,yZ (c:=0) (by simpa using hcap),hext⟩
 have hnc:¬(Builtin.nextslicecap (sl+n) sc*inf.bytes > 2^48):=by
  have h1:=z6 (need:=sl+n) (cap:=sc) (by omega) hlim
  have h2:Builtin.nextslicecap (sl+n) sc*inf.bytes<=20000000*100000:=Nat.mul_le_mul h1 hby
  omega
 have hmax:¬(((sl+n:Nat):Int) > IntKind.i64.max):=by
  simp only[IntKind.max,IntKind.bits,IntKind.signed,if_true];omega
 rw[hs]at hold ⊢
 have ha0:(#[Value.slice base sl sc,aj m x]:Array Value)[0]? = some (.slice base sl sc):=rfl
 have ha1:(#[Value.slice base sl sc,aj m x]:Array Value)[1]? = some (aj m x):=rfl
 have hq:(Question.appendCap (sl+n) sc elem).cut (w.tape w.drawn (.appendCap (sl+n) sc elem))=grownCap w (sl+n) sc elem:=rfl
 have hdr:({ w with drawn:=w.drawn+1 }:World)=w.drew:=rfl
 have hrd:=bb hT hd w
 clear hd
 cases d
 case int k=>exact absurd rfl (hdi k)
 all_goals
  simp only[Builtin.append_,hts,htu,ha0,ha1,Sem.run_bind,bb hT he w,Result.andThen_ok,dU hT hsz w,hrd,Sem.run_pure,Bool.false_eq_true,if_false,ox hx,hn,lV hT hinf w,hmax,false_and,hnc,run_choose,Question.forced,hq,hdr,lV hT hinf w.drew,run_askRoom,hold,Bool.not_false,if_true,hnew,hz1,eJ,newRow,run_newObj]
  simp only[kV,aj,gI,aC.next,eN,Nat.sub_zero,Nat.add_zero]
  rfl
theorem l_{elem size n sl sc:Nat}{ts:Array TypeId}{ty:TypeId}{s x:AV}{new:List AV}{t u:TypeId}{base:Option Addr}{w':World}
 (hts:ts[0]? = some t) (htu:ts[1]? = some u) (he:T.und t=some (.slice elem)) (hu:lA T u=true) (hsz:fx T elem=some size)
 (hs:aj m s=.slice base sl sc) (hx:mq x=some n) (hn:sl+n<=sc)
 (hnew:(Builtin.firstCells size n (aj m x)).run P w=.ok (ar m new).toArray w)
 (hst:∀a,base=some a->(storeCells (a.add (sl*size)) (ar m new) 0).run P w=.ok () w') (hst':base=none->w'=w) :
 (Builtin.append_ ts ty #[aj m s,aj m x]).run P w=.ok (.slice base (sl+n) sc) w':=by
 obtain⟨d,hd,hdi⟩:∃d,T.und u=some d/\∀k,d≠.int k:=by
  unfold lA at hu
  split at hu
  · cases hu
  · rename_i d hne hd
    exact⟨d,hd,λk e=>hne k e⟩
  · cases hu
 rw[hs]
 have ha0:(#[Value.slice base sl sc,aj m x]:Array Value)[0]? = some (.slice base sl sc):=rfl
 have ha1:(#[Value.slice base sl sc,aj m x]:Array Value)[1]? = some (aj m x):=rfl
 have hrd:=bb hT hd w
 clear hd
 cases d
 case int k=>exact absurd rfl (hdi k)
 all_goals
  simp only[Builtin.append_,hts,htu,ha0,ha1,Sem.run_bind,bb hT he w,Result.andThen_ok,dU hT hsz w,hrd,Sem.run_pure,Bool.false_eq_true,if_false,ox hx,hn,if_true,Bool.not_false,hnew]
  cases base with
  | none=>simp only[Sem.run_pure];rw[hst' rfl]
  | some a=>simp only[Sem.run_bind,hst a rfl,Result.andThen_ok,Sem.run_pure]
omit hT hi in
theorem p7{s:AV}{sl:Nat}(h:mq s=some sl)(hs:jC s=true):s=.nilslice/\sl=0\/∃id off c,s=.slice id off sl c:=by
 cases s<;>simp[jC]at hs
 · simp only[mq,Option.some.injEq]at h;subst h;exact .inr ⟨_,_,_,rfl⟩
 · simp only[mq,Option.some.injEq]at h;exact .inl ⟨rfl,h.symm⟩
theorem Cm{ts:Array TypeId}{ty t u:TypeId}{s x:AV}{r:AV×aC}(hts:ts[0]? = some t)(htu:ts[1]? = some u)(hs:cY D m s)(hx:cY D m x)(h:lG T C o t u s x=some r) :
 ∃D' m' w',(Builtin.append_ ts ty #[aj m s,aj m x]).run P w=.ok (aj m' r.1) w'/\cY D' m' r.1/\dk cfg C D m o w D' m' r.2 w':=by
 simp only[lG,ag,ay,Bool.and_eq_true]at h
 obtain⟨elem,he,⟨⟨hni,hsm⟩,hsl⟩,size,hsz,z,hz,n,hn,sl,hl,h⟩:=h
 have heu:=ex he
 obtain⟨inf,hinf,hby⟩:=q_ hT hsm
 have hslc:=p7 hl hsl
 by_cases hn0:n=0
 · rw[dI hn0,cond_true,ay,Option.some.injEq]at h
   obtain⟨hfit,rfl⟩:=h
   subst hn0
   have hfc:(Builtin.firstCells size 0 (aj m x)).run P w=.ok (ar m []).toArray w:=by
    cases x<;>simp[mq]at hn<;>simp[aj,Builtin.firstCells,ar,loadCells,loadCellsFrom]
   refine⟨D,m,w,?_,hs,dk.refl hi⟩
   rcases hslc with⟨rfl,rfl⟩|⟨id,off,c,rfl⟩
   · have:=l_ (ty:=ty) (sc:=0) (w':=w) hT hi hts htu heu hni hsz (s:=.nilslice) (base:=none) (sl:=0) rfl hn (Nat.le_refl _) hfc (λa e=>by cases e) (λ_=>rfl)
     simpa [aj]using this
   · have hroom:sl<=gI (m id) c:=by
      cases c with
      | known c=>exact bt.1 hfit
      | rest k=>
        have:=(hs (id,sl+k) (by simp[aq,d6])).2
        simp only[gI]at this ⊢;omega
     have:=l_ (ty:=ty) (w':=w) hT hi hts htu heu hni hsz (s:=.slice id off sl c) rfl hn hroom hfc (λa e=>by simp[ar,storeCells]) (λe=>by cases e)
     simpa [aj]using this
 · rw[iH hn0,cond_false,ay]at h
   simp only[Bool.and_eq_true,Dj,bt,ba,cK,ag,ay]at h
   obtain⟨⟨⟨⟨⟨hlim,h0⟩,hs1⟩,hzl⟩,hstr⟩,new,hnew,hone,h⟩:=h
   obtain⟨hfr,hfo⟩:=iW (P:=P) hi hx hnew
   have hid:dQ cfg D m C o w.drew:=hi.world λ_ _ _=>rfl
   obtain⟨hfr',_⟩:=iW (P:=P) hid hx hnew
   have hnl:=sh hnew (λs e=>by subst e;exact cK.1 hstr)
   rcases hslc with⟨rfl,rfl⟩|⟨id,off,c,rfl⟩
   · simp only[hI,Option.some.injEq]at h
     subst h
     have:=ni (ty:=ty) (old:=[]) (base:=none) (sc:=0) hT hi hts htu heu hni hinf hby hz hsz hzl h0 (s:=.nilslice) (sl:=0) rfl hn (by omega) (by omega) (by simp[aj,Builtin.firstCells,ar]) hfr' eL hfo (by simp) hnl
     simpa using this
   · have hd:D id:=(hs (id,d6 sl c) (by simp[aq])).1
     have hneed:=(hs (id,d6 sl c) (by simp[aq])).2
     cases c with
     | known c=>
       simp only[hI,appendCap,jg]at h
       by_cases hcap:sl+n<=c
       · rw[bt.2 hcap,cond_true,ag]at h
         obtain⟨o',hw,h⟩:=h
         simp only[Option.some.injEq]at h
         subst h
         obtain⟨w',hw1,hw2⟩:=nj (P:=P) hi hd hfo hone hw
         have:=l_ (ty:=ty) (w':=w') hT hi hts htu heu hni hsz (s:=.slice id off sl (.known c)) rfl hn (by simpa [gI]using hcap) hfr (λa e=>by
          cases e
          rw[fJ,Nat.add_assoc];exact hw1) (λe=>by cases e)
         refine⟨D,m,w',?_,?_,hw2⟩
         · simpa [aj,gI]using this
         · intro i hm
           simp only[aq,List.mem_singleton,d6]at hm
           subst hm;exact⟨hd,Nat.zero_le _⟩
       · rw[im hcap,cond_false,ag]at h
         obtain⟨old,hold,h⟩:=h
         simp only[Option.some.injEq]at h
         subst h
         have hof:io C o size sl (.slice id off sl (.known c))=some old:=by
          simp only[io,ay,bt];exact⟨Nat.le_refl _,hold⟩
         obtain⟨hor,hoo⟩:=iW (P:=P) hid hs hof
         exact ni (ty:=ty) hT hi hts htu heu hni hinf hby hz hsz hzl h0 rfl hn (by simpa [gI]using hcap) hlim hor hfr' hoo hfo (sh hof (λs e=>by cases e)) hnl
     | rest k=>
       simp only[hI,appendCap,jU,ay,Bool.and_eq_true,cK,ag]at h
       obtain⟨⟨rfl,rfl⟩,y,hy,cs,hcs,h⟩:=h
       simp only[Option.some.injEq]at h
       subst h
       simp only[d6,Nat.add_zero]at hneed
       cases y<;>simp only[rm,reduceCtorEq]at hcs
       rename_i cs' rw g
       cases rw<;>cases g<;>simp only[reduceCtorEq,ay,Bool.and_eq_true,cK,Option.some.injEq]at hcs
       obtain⟨⟨rfl,hcl⟩,rfl⟩:=hcs
       rename_i size
       have hob:=hi.obj id hd
       rw[e7 hy]at hob
       obtain⟨c,e,fz,hb,hr⟩:=hob
       obtain rfl:=hr.free rfl
       obtain⟨_,hbase,hcsz⟩:=hr.grow size rfl
       have hk:=dk.put (w':=w) hi (x:=.dead) hd hy rfl (Nat.le_refl _) (λ_ _=>rfl) trivial rfl rfl rfl
       have hnx:(dY C o id .dead).next C=C.lo+o.n:=by simp[aC.next,pR]
       by_cases hcap:sl+n<=(m id).cap
       · have hlen:sl*size+n*size<=(m id).cap*size:=by rw[<-Nat.add_mul];exact Nat.mul_le_mul_right _ hcap
         have hst:=run_storeCells_at P (m id).blk (sl*size) e (ar m new) 0 c w hb (by rw[bZ,hnl,hcsz];omega) (λv hvm=>by
          rw[eB]at hvm
          obtain⟨q,hq,rfl⟩:=List.mem_map.1 hvm
          exact vI (nc.1 hone q hq))
         have hap:=l_ (ty:=ty) hT hi hts htu heu hni hsz (s:=.slice id 0 sl (.rest 0)) rfl hn (by simpa [gI]using hcap) hfr (λa e=>by
          cases e
          rw[fJ,hbase,Nat.add_zero,Nat.zero_add];exact hst) (λe=>by cases e)
         have hg:dk cfg C D m (dY C o id .dead) w (q5 D (C.lo+(dY C o id .dead).n)) (tT m (C.lo+(dY C o id .dead).n) ⟨(m id).blk,0,(m id).cap⟩) ((dY C o id .dead).push (.cells (cs'++new) true (some size))) (w.setRow (m id).blk (c.toList.take (sl*size+0)++ar m new++c.toList.drop (sl*size+0+(ar m new).length)).toArray):=by
          refine dk.again hk.inv hd (by rw[fZ m_,hy];rfl) rfl (λj hj hlj=>?_) (λk hk=>setRow_other _ _ _ _ hk) (Nat.le_of_eq (pY _ _ _).symm) ?_ rfl rfl rfl
          · rw[qw hi.len (hi.lt id hd) (hi.lt j hj) (by rw[hy];rfl)]at hlj
            by_cases ej:j=id
            · rw[if_pos ej]at hlj;cases hlj
            · rw[if_neg ej]at hlj
              exact hi.inj j id hj hd ej hlj (by rw[e7 hy];rfl)
          · refine⟨_,e,(0,0),setRow_heap w _ c _ e _ hb,⟨λi v hv=>?_,dT.2 ⟨hr.okc,hfo⟩,λ_=>rfl,λs hs=>?_⟩⟩
            · simp only[Nat.add_zero,Nat.zero_add,List.getElem?_toArray]
              rw[List.append_assoc,List.getElem?_append,List.length_take,Array.length_toList,Nat.min_eq_left (by omega)]
              rw[List.getElem?_append,hcl]at hv
              by_cases hi1:i<sl*size
              · rw[if_pos hi1]at hv ⊢
                have:=hr.at' i v hv
                rw[hbase,Nat.zero_add]at this
                rw[List.getElem?_take_of_lt hi1,Array.getElem?_toList];exact this
              · rw[if_neg hi1]at hv ⊢
                have:=(List.getElem?_eq_some_iff.1 hv).1
                rw[List.getElem?_append,if_pos (by rw[bZ];exact this),eS,hv];rfl
            · cases hs
              refine⟨h0,rfl,?_⟩
              simp only[Nat.add_zero,List.size_toArray,List.length_append,List.length_take,List.length_drop,Array.length_toList,bZ,hnl]
              rw[hcsz];omega
         refine⟨_,_,_,?_,yZ (c:=0) (n:=(dY C o id .dead).next C) (l:=⟨(m id).blk,0,(m id).cap⟩) (m:=m) (D:=D) hcap,hk.trans hg⟩
         rw[hap]
         simp only[kV,aj,gI,aC.next,eN,Nat.sub_zero,Nat.add_zero,hbase]
       · have hof:io C o size sl (.slice id 0 sl (.rest 0))=some cs':=by
          simp only[io,ay,bt]
          refine⟨Nat.le_refl _,?_⟩
          simp only[jG,e7 hy,cellsOf,ob,iv,List.drop_zero]
          rw[<-hcl,List.take_length,dI rfl];rfl
         obtain⟨hor,hoo⟩:=iW (P:=P) hid hs hof
         have hki:dQ cfg D m C (dY C o id .dead) w:=hk.inv
         obtain⟨D',m',w',h1,h2,h3⟩:=ni (ty:=ty) hT hki hts htu heu hni hinf hby hz hsz hzl h0 (s:=.slice id 0 sl (.rest 0)) rfl hn (by simpa [gI]using hcap) hlim hor hfr' hoo hfo (by omega) hnl
         exact⟨D',m',w',h1,h2,hk.trans h3⟩
end
section
variable{P:Program}{T:eA}(hT:eE P T){cfg:cx}{C:bg}{D:Nat->Prop}{m:Nat->bo}{o:aC}{w:World}(hi:dQ cfg D m C o w)
include hT hi
theorem Hi{ts:Array TypeId}{ty t:TypeId}{d s:AV}{r:AV×aC}(hts:ts[0]? = some t)(hd:cY D m d)(hs:cY D m s)(h:vj T C o t d s=some r) :
 ∃D' m' w',(Builtin.copy_ ts ty #[aj m d,aj m s]).run P w=.ok (aj m' r.1) w'/\cY D' m' r.1/\dk cfg C D m o w D' m' r.2 w':=by
 simp only[vj,ag,ay]at h
 obtain⟨elem,he,hsl,size,hsz,dl,hdl,sl,hsl',cs,hcs,h⟩:=h
 obtain⟨hfr,hfo⟩:=iW (P:=P) hi hs hcs
 have hmin:Fp sl dl=Nat.min sl dl:=by
  unfold Fp
  by_cases hle:sl<=dl
  · rw[bt.2 hle,cond_true];exact(Nat.min_eq_left hle).symm
  · rw[im hle,cond_false];exact(Nat.min_eq_right (by omega)).symm
 have ha1:∀x y:Value,(#[x,y]:Array Value)[1]? = some y:=λ_ _=>rfl
 have ha0:∀x y:Value,(#[x,y]:Array Value)[0]? = some x:=λ_ _=>rfl
 rcases p7 hdl hsl with⟨rfl,rfl⟩|⟨id,off,c,rfl⟩
 · simp only[pj,Option.some.injEq]at h
   subst h
   refine⟨D,m,w,?_,by rw[fg];exact qu,dk.refl hi⟩
   rw[hmin]at hfr ⊢
   simp only[Builtin.copy_,hts,ha0,ha1,Sem.run_bind,bb hT (ex he) w,Result.andThen_ok,aj,ox hsl',dU hT hsz w,hfr,Sem.run_pure,fg,Go.goInt]
 · have hdd:D id:=(hd (id,d6 dl c) (by simp[aq])).1
   simp only[pj,ay,ag,Option.some.injEq]at h
   obtain⟨hone,o',hw,rfl⟩:=h
   obtain⟨w',hw1,hw2⟩:=nj (P:=P) hi hdd hfo hone hw
   refine⟨D,m,w',?_,by rw[fg];exact qu,hw2⟩
   rw[hmin]at hfr ⊢
   simp only[Builtin.copy_,hts,ha0,ha1,Sem.run_bind,bb hT (ex he) w,Result.andThen_ok,aj,ox hsl',dU hT hsz w,hfr,hw1,Sem.run_pure,fg,Go.goInt]
omit hi in
theorem Oa{ts:Array TypeId}{ty t:TypeId}{x v:AV}(hts:ts[0]? = some t)(h:CZ x (T.und t)=some v):(Builtin.len_ ts ty #[aj m x]).run P w=.ok (aj m v) w/\aq v=[]:=by
 have ha0:∀x:Value,(#[x]:Array Value)[0]? = some x:=λ_=>rfl
 cases hu:T.und t with
 | none=>simp[hu,CZ]at h
 | some d=>
   cases d<;>simp only[hu,CZ,reduceCtorEq]at h
   · cases x<;>simp only[reduceCtorEq,Option.some.injEq]at h
     subst h
     rw[fg]
     refine⟨?_,by simp[aq]⟩
     simp only[Builtin.len_,hts,ha0,Sem.run_bind,bb hT hu w,Result.andThen_ok,aj,Sem.run_pure,Go.goInt];rfl
   · cases x<;>simp only[reduceCtorEq,Option.some.injEq]at h<;>subst h<;>rw[fg]<;>refine⟨?_,by simp[aq]⟩<;>
      simp only[Builtin.len_,hts,ha0,Sem.run_bind,bb hT hu w,Result.andThen_ok,aj,Sem.run_pure,Go.goInt]<;>rfl
   · simp only[Option.some.injEq]at h
     subst h
     rw[fg]
     refine⟨?_,by simp[aq]⟩
     simp only[Builtin.len_,hts,ha0,Sem.run_bind,bb hT hu w,Result.andThen_ok,aj,Sem.run_pure,Go.goInt]
omit hi in
theorem Nx{ts:Array TypeId}{ty t:TypeId}{x v:AV}(hts:ts[0]? = some t)(h:BZ x (T.und t)=some v):(Builtin.cap_ ts ty #[aj m x]).run P w=.ok (aj m v) w/\aq v=[]:=by
 have ha0:∀x:Value,(#[x]:Array Value)[0]? = some x:=λ_=>rfl
 cases hu:T.und t with
 | none=>simp[hu,BZ]at h
 | some d=>
   rw[hu]at h
   cases d<;>simp only[BZ,reduceCtorEq]at h
   cases x<;>(try simp only[reduceCtorEq,Option.some.injEq]at h)
   · rename_i id off len c
     cases c<;>simp only[reduceCtorEq,Option.some.injEq]at h
     subst h
     rw[fg]
     refine⟨?_,by simp[aq]⟩
     simp only[Builtin.cap_,hts,ha0,Sem.run_bind,bb hT hu w,Result.andThen_ok,aj,Sem.run_pure,Go.goInt,gI]
   · subst h
     rw[fg]
     refine⟨?_,by simp[aq]⟩
     simp only[Builtin.cap_,hts,ha0,Sem.run_bind,bb hT hu w,Result.andThen_ok,aj,Sem.run_pure,Go.goInt]
omit hT hi in
theorem zb{k:IntKind}:∀{vs:List AV} {acc:Int} {v:AV},lN ja k acc vs=some v->((ar m vs).foldlM Builtin.min2 (.int k acc)).run P w=.ok (aj m v) w/\aq v=[]
 | [],acc,v,h=>by cases h;simp[ar,aj,aq]
 | x::vs,acc,v,h=>by
   cases x<;>simp only[lN,reduceCtorEq]at h
   rename_i k' y
   obtain⟨h1,h2⟩:=zb h
   refine⟨?_,h2⟩
   have e:ja acc y=if y<acc then y else acc:=by
    unfold ja
    rw[eV]
    by_cases hle:acc<=y
    · rw[decide_eq_true hle,cond_true,if_neg (by omega)]
    · rw[decide_eq_false hle,cond_false,if_pos (by omega)]
   rw[e]at h1
   simpa [ar,aj,Builtin.min2]using h1
omit hT hi in
theorem yw{k:IntKind}:∀{vs:List AV} {acc:Int} {v:AV},lN jc k acc vs=some v->((ar m vs).foldlM Builtin.max2 (.int k acc)).run P w=.ok (aj m v) w/\aq v=[]
 | [],acc,v,h=>by cases h;simp[ar,aj,aq]
 | x::vs,acc,v,h=>by
   cases x<;>simp only[lN,reduceCtorEq]at h
   rename_i k' y
   obtain⟨h1,h2⟩:=yw h
   refine⟨?_,h2⟩
   have e:jc acc y=if y > acc then y else acc:=by
    unfold jc
    rw[eV]
    by_cases hle:y<=acc
    · rw[decide_eq_true hle,cond_true,if_neg (by omega)]
    · rw[decide_eq_false hle,cond_false,if_pos (by omega)]
   rw[e]at h1
   simpa [ar,aj,Builtin.max2]using h1
theorem z8{b:Builtin}{ts:Array TypeId}{ty:TypeId}{consts:Array Bool}{vs:List AV}{r:AV×aC}(hv:eI D m vs)(h:eQ T C o b ts.toList vs=some r):fo P cfg C D m o w (Go.builtin b ts ty consts (ar m vs).toArray) r:=by
 have ht:∀i,ts.toList[i]? = ts[i]? := λi=>Array.getElem?_toList
 unfold eQ at h
 cases b<;>(try simp only[reduceCtorEq]at h)
 case append=>
  simp only[ag,ht]at h
  obtain⟨t,h0,u,h1,h⟩:=h
  match vs,h,hv with
  | [s,x],h,hv=>
    have hs:=(cq.1 hv).1
    have hx:=(cq.1 (cq.1 hv).2).1
    obtain⟨D',m',w',hr,ho,he⟩:=Cm (ty:=ty) hT hi h0 h1 hs hx h
    exact⟨D',m',w',_,by simp only[Go.builtin,Sem.run_bind,ar];rw[hr];rfl,.inl rfl,ho,he⟩
  | [],h,_=>cases h
  | [_],h,_=>cases h
  | _::_::_::_,h,_=>cases h
 case cap=>
  simp only[bF,ag,ht]at h
  obtain⟨⟨t,h0,h⟩,ho⟩:=h
  match vs,h with
  | [x],h=>
    obtain⟨h1,h2⟩:=Nx (P:=P) (m:=m) (w:=w) (ty:=ty) hT h0 h
    exact fo.pure hi ho (by simp only[Go.builtin,Sem.run_bind,ar];rw[h1];rfl) (bQ h2)
  | [],h=>cases h
  | _::_::_,h=>cases h
 case copy=>
  simp only[ag,ht]at h
  obtain⟨t,h0,h⟩:=h
  match vs,h,hv with
  | [s,x],h,hv=>
    have hs:=(cq.1 hv).1
    have hx:=(cq.1 (cq.1 hv).2).1
    obtain⟨D',m',w',hr,ho,he⟩:=Hi (ty:=ty) hT hi h0 hs hx h
    exact⟨D',m',w',_,by simp only[Go.builtin,Sem.run_bind,ar];rw[hr];rfl,.inl rfl,ho,he⟩
  | [],h,_=>cases h
  | [_],h,_=>cases h
  | _::_::_::_,h,_=>cases h
 case len=>
  simp only[bF,ag,ht]at h
  obtain⟨⟨t,h0,h⟩,ho⟩:=h
  match vs,h with
  | [x],h=>
    obtain⟨h1,h2⟩:=Oa (P:=P) (m:=m) (w:=w) (ty:=ty) hT h0 h
    exact fo.pure hi ho (by simp only[Go.builtin,Sem.run_bind,ar];rw[h1];rfl) (bQ h2)
  | [],h=>cases h
  | _::_::_,h=>cases h
 case max=>
  simp only[bF]at h
  obtain⟨h,ho⟩:=h
  match vs,h with
  | .int k x::rest,h=>
    obtain⟨h1,h2⟩:=yw (P:=P) (m:=m) (w:=w) h
    refine fo.pure hi ho ?_ (bQ h2)
    simp only[Go.builtin,Builtin.max_,Sem.run_bind,ar,aj]
    rw[h1];rfl
  | [],h=>cases h
  | .bool _::_,h=>cases h
  | .str _::_,h=>cases h
  | .ptr ..::_,h=>cases h
  | .nilptr::_,h=>cases h
  | .slice ..::_,h=>cases h
  | .nilslice::_,h=>cases h
  | .func ..::_,h=>cases h
  | .nilfunc::_,h=>cases h
  | .iface ..::_,h=>cases h
  | .niliface::_,h=>cases h
  | .agg _::_,h=>cases h
  | .tuple _::_,h=>cases h
  | .map _::_,h=>cases h
  | .nilmap::_,h=>cases h
 case min=>
  simp only[bF]at h
  obtain⟨h,ho⟩:=h
  match vs,h with
  | .int k x::rest,h=>
    obtain⟨h1,h2⟩:=zb (P:=P) (m:=m) (w:=w) h
    refine fo.pure hi ho ?_ (bQ h2)
    simp only[Go.builtin,Builtin.min_,Sem.run_bind,ar,aj]
    rw[h1];rfl
  | [],h=>cases h
  | .bool _::_,h=>cases h
  | .str _::_,h=>cases h
  | .ptr ..::_,h=>cases h
  | .nilptr::_,h=>cases h
  | .slice ..::_,h=>cases h
  | .nilslice::_,h=>cases h
  | .func ..::_,h=>cases h
  | .nilfunc::_,h=>cases h
  | .iface ..::_,h=>cases h
  | .niliface::_,h=>cases h
  | .agg _::_,h=>cases h
  | .tuple _::_,h=>cases h
  | .map _::_,h=>cases h
  | .nilmap::_,h=>cases h
end
def cD:fb->List Nat
 | .bar ids=>ids
 | _=>[]
def iY(P:Program)(f:FuncId)(args:Array Value)(w:World)(R:Value->World->Prop):Prop:=
 ((callFunc f args).run P w=.ok (.enter f args) w/\Calls P f args w λe w'=>∃v,e=.returned v/\R v w')\/∃v w',(callFunc f args).run P w=.ok (.value v) w'/\R v w'
theorem iY.mono{P:Program}{f:FuncId}{args:Array Value}{w:World}{R R':Value->World->Prop}(h:iY P f args w R)(hr:∀v w',R v w'->R' v w'):iY P f args w R':=
 h.elim (λ⟨a,b⟩=>.inl ⟨a,b.mono λ_ _ ⟨v,e,r⟩=>⟨v,e,hr _ _ r⟩⟩) λ⟨v,w',a,b⟩=>.inr ⟨v,w',a,hr _ _ b⟩
def FR(x:Option Nat):Fence:={ Fence.wide with round:=x }
theorem AB{x:Option Nat}{n:Nat}{P:Program}{f:FuncId}{args:Array Value}{w:World}{R:Ending->World->Prop}(h:Calls P f args w R):CallsIn (FR x) n P f args w R:=
 (callsIn_wide.2 h:CallsIn Fence.wide n P f args w R)
def N1(P:Program)(l:Nat)(args:Array Value)(w:World)(R:Value->World->Prop):Prop:=
 ∃fn tmps assign body,(Instr.yield l args).run P w=.ok (.round l fn tmps assign body) w/\RoundIn Fence.wide 0 P l fn tmps assign body w λe w'=>∃v,e=.returned v/\R v w'
def ku(D:Nat->Prop)(w:World)(D':Nat->Prop)(m':Nat->bo)(w':World):Prop:=
 (∀k,k<w.heap.size->w'.heap[k]? = w.heap[k]?)/\∀i,D' i->¬D i->w.heap.size<=(m' i).blk
def iT(P:Program)(cfg:cx)(mu:Prop)(call:bg->FuncId->List AV->aC->Option (AV×aC)):Prop:=
 ∀C f args o r,call C f args o=some r->∀D m w,dQ cfg D m C o w->eI D m args->
  iY P f (ar m args).toArray w λV w'=>∃D' m',V=aj m' r.1/\cY D' m' r.1/\dk cfg C D m o w D' m' r.2 w'/\(mu->dm args (cfg.lend f)=[]->ku D w D' m' w')
def xV(P:Program)(cfg:cx)(mu:Prop)(rnd:bg->Nat->List AV->aC->Option (AV×aC)):Prop:=
 ∀C id args o r,rnd C id args o=some r->(mu->False)/\∀D m w,dQ cfg D m C o w->D id->eI D m args->
  N1 P (m id).blk (ar m args).toArray w λV w'=>∃D' m',V=aj m' r.1/\cY D' m' r.1/\dk cfg C D m o w D' m' r.2 w'
theorem qC{P:Program}{cfg:cx}{mu:Prop}:xV P cfg mu o_:=λC id args o r h=>by cases h
section
variable{P:Program}{T:eA}(hT:eE P T){cfg:cx}{C:bg}{D:Nat->Prop}{m:Nat->bo}{o:aC}{w:World}(hi:dQ cfg D m C o w){ρ:Operand->Option AV}
include hT hi
theorem LW{ev:Operand->Value}(hρ:jE D m ρ ev){oo:Oper}{r:AV×aC}(h:zg T C ρ o oo.op=some r):o7 P cfg C D m o w ev oo r:=by
 unfold zg at h
 cases ho:oo.op<;>rw[ho]at h<;>simp only[fM]at h
 case move=>exact BN hi hρ (.inl ho) h
 case assign=>exact BN hi hρ (.inr ho) h
 case pick=>exact H8 hi hρ ho h
 case alloc=>exact FQ hT hi hρ ho h
 case box=>exact NU hi hρ ho h
 case build=>exact Gf hT hi hρ ho h
 case buildSlice=>exact tw hT hi hρ ho h
 case insert=>exact xL hT hi hρ (.inl ho) h
 case load=>exact Ib hT hi hρ ho h
 case store=>exact DB hT hi hρ ho h
 case nilCheck=>exact y4 hi hρ ho h
 case binOp=>exact NR hT hi hρ ho h
 case unOp=>exact PB hi hρ ho h
 case convert=>exact zU hT hi hρ ho h
 case makeInterface=>exact EC hT hi hρ ho h
 case makeFunc=>exact H1 hi hρ ho h
 case makeMap=>exact zH hi hρ ho h
 case makeSlice=>exact w6 hT hi hρ ho h
 case slice=>exact Fu hT hi hρ ho h
 case fieldAddr=>exact wl hT hi hρ ho h
 case field=>exact EB hT hi hρ ho h
 case indexAddr=>exact xe hT hi hρ ho h
 case index=>exact Ds hT hi hρ ho h
 case lookup=>exact Cj hT hi hρ ho h
 case mapUpdate=>exact xL hT hi hρ (.inr ho) h
 case range=>exact Dm hT hi hρ ho h
 case next=>exact I1 hi hρ ho h
 case extract=>exact zB hi hρ ho h
 all_goals cases h
theorem nt{mu:Prop}{x:Option Nat}{a:Act}(hρ:jE D m ρ a.eval){call:bg->FuncId->List AV->aC->Option (AV×aC)}{rnd:bg->Nat->List AV->aC->Option (AV×aC)}(hc:iT P cfg mu call)(hrd:xV P cfg mu rnd)
 {oo:Oper} {r:AV×aC} (h:fq T call rnd C ρ o oo.op=some r)
 {next:Act->World->Prop} {Q:Exit->Act->World->Prop} (hn:∀D' m' w',cY D' m' r.1->dk cfg C D m o w D' m' r.2 w'->(mu->bS oo.op=.call->cD (cU cfg ρ oo.op)=[]->ku D w D' m' w')->next (a.put oo.dst (aj m' r.1)) w'):oo.wpIn (FR x) 0 P a w next Q:=by
 have hnd:∀c,oo.op≠.defer c:=λc e=>by rw[e]at h;cases h
 have hsem:oo.semAt (FR x).round a.eval=execOp a.eval oo:=Oper.semAt_eq _ _ _ hnd
 have hdep:∀k:Nat,(FR x).depth.isSome=true->1<=k:=λk hk=>by cases hk
 unfold Oper.wpIn
 refine⟨λ_ _=>trivial,?_⟩
 rw[hsem]
 have fin:bS oo.op≠.call->fo P cfg C D m o w (execOp a.eval oo) r->oo.uponIn (FR x) 0 P a next Q ((execOp a.eval oo).run P w):=by
  rintro hk ⟨D',m',w',nx,hr,hx,hv,he⟩
  rw[hr]
  rcases hx with rfl|⟨rfl,hu⟩
  · exact hn D' m' w' hv he λ_ e=>absurd e hk
  · have:=hn D' m' w' hv he λ_ e=>absurd e hk
    rw[hu,gZ]at this
    exact this
 unfold fq at h
 split at h
 · rename_i c hoc
   unfold og at h
   cases hcal:c.callee with
   | value f=>
     simp only[hcal,ag]at h
     obtain⟨fv,hf,vs,hvs,h⟩:=h
     obtain⟨h1,h2⟩:=hρ f _ hf
     obtain⟨h3,h4⟩:=iZ hρ hvs
     cases fv<;>simp only[AN,reduceCtorEq]at h
     · rename_i fid first captured
       have hok:eI D m (first++vs++captured):=by
        have:eI D m first/\eI D m captured:=⟨λi hm=>h2 i (by simp[aq,hm]),λi hm=>h2 i (by simp[aq,hm])⟩
        exact dT.2 ⟨dT.2 ⟨this.1,h4⟩,this.2⟩
       have hcs:=hc C fid _ o r h D m w hi hok
       have hargs:(ar m first).toArray++(ar m vs).toArray++(ar m captured).toArray=(ar m (first++vs++captured)).toArray:=by
        simp[jD]
       have hex:∀nx w',(callFunc fid (ar m (first++vs++captured)).toArray).run P w=.ok nx w'->(execOp a.eval oo).run P w=.ok nx w':=by
        intro nx w' hrun
        simp only[execOp,hoc,resolve,hcal,h1,aj,Deferred.ofValue,h3,Sem.run_bind,Sem.run_pure,Result.andThen_ok,invoke]
        rw[hargs];exact hrun
       have hmu:∀D' m' w',(mu->dm (first++vs++captured) (cfg.lend fid)=[]->ku D w D' m' w')->mu->bS oo.op=.call->cD (cU cfg ρ oo.op)=[]->ku D w D' m' w':=by
        intro D' m' w' hm hmu _ hf'
        refine hm hmu ?_
        simp only[hoc,cU,hcal,qb,hf,hvs,Az]at hf'
        cases hna:dm (first++vs++captured) (cfg.lend fid)with
        | nil=>rfl
        | cons x xs=>rw[hna]at hf';cases hf'
       rcases hcs with⟨hent,hcalls⟩|⟨v,w',hval,D',m',rfl,hv,he,hm⟩
       · rw[hex _ _ hent,Oper.uponIn_enter]
         refine⟨hdep _,CallsIn.mono (AB hcalls) ?_⟩
         rintro e w' ⟨v,rfl,D',m',rfl,hv,he,hm⟩
         exact hn D' m' w' hv he (hmu D' m' w' hm)
       · rw[hex _ _ hval,Oper.uponIn_value]
         exact hn D' m' w' hv he (hmu D' m' w' hm)
     · rename_i id
       obtain⟨hmf,hrr⟩:=hrd C id vs o r h
       obtain⟨fn,tmps,assign,body,hy,hR⟩:=hrr D m w hi (h2 _ (by simp[aq];rfl)).1 h4
       have hex:∀nx w',(Instr.yield (m id).blk (ar m vs).toArray).run P w=.ok nx w'->(execOp a.eval oo).run P w=.ok nx w':=by
        intro nx w' hrun
        simp only[execOp,hoc,resolve,hcal,h1,aj,Deferred.ofValue,h3,Sem.run_bind,Sem.run_pure,Result.andThen_ok,invoke]
        simpa using hrun
       rw[hex _ _ hy,Oper.uponIn_round]
       refine⟨hdep _,RoundIn.mono (F:=FR x) hR ?_⟩
       rintro e w' ⟨v,rfl,D',m',rfl,hv,he⟩
       exact hn D' m' w' hv he λhm=>(hmf hm).elim
   | builtin b=>
     simp only[hcal,ag]at h
     obtain⟨vs,hvs,h⟩:=h
     obtain⟨h3,h4⟩:=iZ hρ hvs
     refine fin (by rw[hoc];simp only[bS,hcal,Kc];cases b<;>simp[Ky]) ?_
     obtain⟨D',m',w',nx,hr,hx⟩:=z8 (ty:=oo.type) (consts:=c.args.map λ|.const _=>true|_=>false) hT hi h4 h
     refine⟨D',m',w',nx,?_,hx⟩
     simp only[execOp,hoc,resolve,hcal,h3,Sem.run_bind,Sem.run_pure,Result.andThen_ok,invoke]
     exact hr
   | invoke x n=>simp[hcal]at h
 · rename_i hne
   refine fin (λe=>?_) (LW hT hi hρ h)
   cases hop:oo.op<;>rw[hop]at e<;>simp only[bS,reduceCtorEq]at e
   exact hne _ hop
end
theorem Cu{D:Nat->Prop}{m:Nat->bo}{st:St}{a:Act}(ht:TR D m st a){ops:Array Oper}{oo:Oper}:Region.wanted oo (yielded ops a.tmps)=dV ops st.ts oo.guard:=by
 unfold Region.wanted dV
 cases oo.guard with
 | none=>rfl
 | some jw=>
   obtain⟨j,want⟩:=jw
   simp only[yielded]
   cases hj:ops[j]? with
   | none=>simp
   | some op=>
     cases hd:op.dst with
     | none=>simp[hd,ov]
     | some t=>
       have hat:=ht.at' t
       simp only[Option.bind_some,hd,ov]
       cases hg:a.tmps[t]? with
       | none=>
         have:a.tmps.getD t undef=undef:=by
          grind
         rw[this]at hat
         cases hv:st.ts.get t<;>rw[hv]at hat<;>simp[aj,undef]at hat<;>first|rfl|(subst hat;rfl)
       | some v=>
         have:a.tmps.getD t undef=v:=by simp[hg]
         rw[this]at hat
         subst hat
         cases hv:st.ts.get t with
         | any v=>simp only[aj,rZ];cases v<;>simp[vW,nW]
         | _=>simp[aj,rZ,nW]
theorem B3{cfg:cx}{D:Nat->Prop}{m:Nat->bo}{C:bg}{st:St}{a:Act}{w:World}(hi:dQ cfg D m C st.o w)(ht:TR D m st a):jE D m (ea cfg.G st.ts) a.eval:=λ_ _ h=>j6 hi ht h
section
variable{P:Program}{T:eA}(hT:eE P T){cfg:cx}{C:bg}{mu:Prop}{call:bg->FuncId->List AV->aC->Option (AV×aC)}{rnd:bg->Nat->List AV->aC->Option (AV×aC)}(hc:iT P cfg mu call)(hrd:xV P cfg mu rnd)
include hT hc hrd
theorem Aw{ops:Array Oper}{Q:Exit->Act->World->Prop}{x:Option Nat}:∀(l:List Oper) (k:Nat),ops.toList.drop k=l->∀{D:Nat->Prop} {m:Nat->bo} {st st':St} {a:Act} {w:World},dQ cfg D m C st.o w->TR D m st a->yH T cfg call rnd C ops l st=some st'->
 (∀D' m' a' w',TR D' m' st' a'->dk cfg C D m st.o w D' m' st'.o w'->Q .normal a' w')->wpOpsIn (FR x) 0 P ops Q (List.range' k l.length) a w
 | [],k,hl,D,m,st,st',a,w,hi,ht,h,hq=>by
   cases h
   exact hq D m a w ht (dk.refl hi)
 | oo::rest,k,hl,D,m,st,st',a,w,hi,ht,h,hq=>by
   have hk:ops[k]? = some oo:=by
    have:(ops.toList.drop k)[0]? = some oo:=by rw[hl];rfl
    rw[List.getElem?_drop]at this
    simpa using this
   have hrest:ops.toList.drop (k+1)=rest:=by
    rw[<-List.drop_drop,hl];rfl
   simp only[yH,ag]at h
   obtain⟨st1,hs,h⟩:=h
   simp only[List.length_cons,List.range'_succ,wpOpsIn,hk]
   rw[Cu ht]
   cases hw:dV ops st.ts oo.guard with
   | true=>
     rw[hw,cond_true,ag]at hs
     obtain⟨r,hr,hp⟩:=hs
     rw[if_pos rfl]
     refine nt hT hi (B3 hi ht) hc hrd hr λD' m' w' hv he _=>?_
     obtain⟨ht',ho,_⟩:=(ht.mono he.sub he.same).put hp hv
     have hi':dQ cfg D' m' C st1.o w':=by rw[ho];exact he.inv
     refine Aw rest (k+1) hrest hi' ht' h λD2 m2 a2 w2 ht2 he2=>hq D2 m2 a2 w2 ht2 ?_
     rw[ho]at he2
     exact he.trans he2
   | false=>
     rw[hw,cond_false]at hs
     rw[if_neg (by simp)]
     refine⟨λ_ _=>trivial,?_⟩
     obtain⟨ht',ho,_⟩:=ht.put hs gc
     rw[gZ]at ht'
     have hi':dQ cfg D m C st1.o w:=by rw[ho];exact hi
     refine Aw rest (k+1) hrest hi' ht' h λD2 m2 a2 w2 ht2 he2=>hq D2 m2 a2 w2 ht2 ?_
     rw[ho]at he2;exact he2
end
end Go.Ev
