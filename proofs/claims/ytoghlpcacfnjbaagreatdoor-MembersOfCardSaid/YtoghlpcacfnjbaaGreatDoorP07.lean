import Derived.RangeFuncIn
import Derived.RangeFuncSeq
import Derived.Test.YtoghlpcacfnjbaaGreatDoorP06
set_option linter.all false
set_option maxRecDepth 100000
set_option maxHeartbeats 4000000
namespace Go.Ev
open Go Go.RowKit
variable{C:bg}{w:World}{l:bq}{size n elem sl sc:Nat}{x s:AV}{r:AV×aC}{st:St}
theorem zM(newLen:Nat):∀(r c:Nat),Builtin.growBy newLen r c<=2^r*(c+768)
 | 0,c=>by simp[Builtin.growBy]
 | r+1,c=>by
   have hp:2^(r+1)=2*2^r:=by rw[Nat.pow_succ];omega
   have h1:0<2^r:=Nat.two_pow_pos r;unfold Builtin.growBy;split
   . rw[hp,Nat.mul_assoc];have:1*(c+768)<=2^r*(c+768):=Nat.mul_le_mul_right _ h1;omega
   . refine Nat.le_trans (zM newLen r _) ?_;rw[hp,Nat.mul_comm 2,Nat.mul_assoc];exact Nat.mul_le_mul_left _ (by omega)
theorem Ef{need cap:Nat}(h:cap<need)(hn:need<=1000000):Builtin.nextslicecap need cap<=20000000:=by
 unfold Builtin.nextslicecap;split
 . omega
 . split
   . omega
   . refine Nat.le_trans (zM need 4 cap) ?_;omega
theorem dk.again{cfg:cG}{D:Nat->Prop}{m:Nat->bq}{o:aC}{w':World}(h:dV cfg D m C o w){x:aE}{id:Nat}(hd:D id)(ho:(dW C o id).isSome)(hl:l.blk=(m id).blk)
 (hlv:∀j,D j->nQ (get C o j)->(m j).blk≠(m id).blk) (hw:∀k,k≠(m id).blk->w'.heap[k]? = w.heap[k]?) (hsz:w.heap.size<=w'.heap.size) (hx:cS D m l x w'.heap[l.blk]?)
 (hos:w'.os=w.os) (ht:w'.tape=w.tape) (hu:w'.output=w.output) :
 dk cfg C D m o w (wV D (C.lo+o.n)) (zm m (C.lo+o.n) l) (o.push x) w':=by
 have h':dV cfg D m C o w':=h.world λj hj hlj=>hw _ (hlv j hj hlj);refine⟨h'.push (λj hj hlj=>by rw[hl];exact hlv j hj hlj) hx,λi hi=>.inl hi,λi hi=>?_,?_,by simp[aC.push],hos,ht,hu,hsz,λk _ hn=>hw k (λe=>hn id hd ho e.symm),rfl,?_⟩
 . have:=h.lt i hi;exact qC (by omega)
 . rintro i (hi|rfl)
   . exact .inl hi
   . exact .inr (Nat.le_refl _)
 . rintro i (hi|rfl) hn
   . exact absurd hi hn
   . rw[fM];exact .inr ⟨id,hd,ho,hl.symm⟩
section
variable{P:Program}{T:fb}(hT:fF P T){cfg:cG}{C:bg}{D:Nat->Prop}{m:Nat->bq}{o:aC}{w:World}(hi:dV cfg D m C o w)
include hT hi
omit hT in
theorem ks{cs:List AV}(hx:db D m x)(h:jG C o size n x=some cs):(Builtin.firstCells size n (aj m x)).run P w=.ok (ap m cs).toArray w/\fN D m cs:=by
 cases x<;>simp only[jG,reduceCtorEq,aA,Option.some.injEq]at h
 . rename_i s;obtain⟨hn,rfl⟩:=h;refine⟨?_,dK.2 (λv hm=>by obtain⟨b,_,rfl⟩:=List.mem_map.1 hm;exact bQ (by simp[jt,aD]))⟩;simp only[aj,Builtin.firstCells,Sem.run_pure];congr 1
   apply Array.toList_inj.1;simp[ByteArray.data_extract,fh,jt,aj,Function.comp_def]
 . rename_i id off len c;have hd:D id:=(hx (id,fj len c) (by simp[aD])).1;obtain⟨hn,h⟩:=h;simp only[mc,ai]at h;obtain⟨cs0,hc0,h⟩:=h;obtain⟨h1,h2⟩:=hi.range hd hc0 h P;exact⟨by simpa [aj,Builtin.firstCells]using h1,h2⟩
 . obtain⟨hn,rfl⟩:=h;exact⟨by simp[aj,Builtin.firstCells,ap],fH⟩
omit hT hi in
theorem qY(h:pJ x=some n):(Builtin.lenOf (aj m x)).run P w=.ok n w:=by
 cases x<;>simp only[pJ,reduceCtorEq,Option.some.injEq]at h<;>subst h<;>simp[aj,Builtin.lenOf]<;>rfl
omit hT hi in
theorem EF(z:Array Value)(n:Nat):(Builtin.zeroCells z n).size=n*z.size:=by simp[Builtin.zeroCells]
omit hT hi in
theorem yx{cs:List AV}(h:jG C o size n x=some cs)(hs:∀s,x=.str s->size=1):cs.length=n*size:=by
 cases x<;>simp only[jG,reduceCtorEq,aA,Option.some.injEq,bv,cO]at h
 . rename_i s;obtain⟨hn,rfl⟩:=h;rw[hs s rfl];simp;omega
 . obtain⟨hn,h⟩:=h;simp only[mc,ai]at h;obtain⟨cs0,hc0,h⟩:=h;exact tD h
 . obtain⟨rfl,rfl⟩:=h;simp
omit hT hi in
theorem Cd{c:Nat}{k:Nat}(hk:k<=l.cap):db (wV D n) (zm m n l) (.slice n 0 k (.rest 0)):=λi hm=>by
 simp only[aD,List.mem_singleton,fj]at hm;subst hm;exact⟨s_,by simp only[fM];omega⟩
theorem qh{ts:Array TypeId}{ty:TypeId}{old new:List AV}{z:AV}{t u:TypeId}{base:Option Addr}{inf:TypeInfo}
 (hts:ts[0]? = some t) (htu:ts[1]? = some u) (he:T.und t=some (.slice elem)) (hu:oX T u) (hinf:T.inf elem=some inf) (hby:inf.bytes<=100000) (hz:kW T elem=some z) (hsz:gO T elem=some size) (hzl:(bU z).length=size) (h0:0<size)
 (hs:aj m s=.slice base sl sc) (hx:pJ x=some n) (hn:¬sl+n<=sc) (hlim:sl+n<=1000000)
 (hold:(Builtin.firstCells size sl (aj m s)).run P w.drew=.ok (ap m old).toArray w.drew) (hnew:(Builtin.firstCells size n (aj m x)).run P w.drew=.ok (ap m new).toArray w.drew)
 (hoo:fN D m old) (hon:fN D m new) (hol:old.length=sl*size) (hnl:new.length=n*size) :
 ∃D' m' w',(Builtin.append_ ts ty #[aj m s,aj m x]).run P w=.ok (aj m' (oE C o size (sl+n) (old++new)).1) w'/\db D' m' (oE C o size (sl+n) (old++new)).1/\dk cfg C D m o w D' m' (oE C o size (sl+n) (old++new)).2 w':=by
 have hcap:=CU w (sl+n) sc elem (by omega);obtain⟨d,hd,hdi⟩:∃d,T.und u=some d/\∀k,d≠.int k:=by
  unfold oX at hu;split at hu
  . cases hu
  . rename_i d hne hd;exact⟨d,hd,λk e=>hne k e⟩
  . cases hu
 obtain⟨hz1,hz2⟩:=l_ hT (m:=m) hz w.drew;have hok:fN D m (old++new):=eA.2 ⟨hoo,hon⟩;have hrest:(Builtin.zeroCells (ap m (bU z)).toArray (grownCap w (sl+n) sc elem-(sl+n))).size=(grownCap w (sl+n) sc elem-(sl+n))*size:=by
  rw[EF];simp[b_,hzl]
 have hsize:((ap m old).toArray++(ap m new).toArray++Builtin.zeroCells (ap m (bU z)).toArray (grownCap w (sl+n) sc elem-(sl+n))).size=grownCap w (sl+n) sc elem*size:=by
  simp only[Array.size_append,hrest,List.size_toArray,b_,hol,hnl];rw[<-Nat.add_mul,<-Nat.add_mul];congr 1;omega
 have hext:=dk.fresh1 hi (.cells (old++new) true (some size)) ⟨w.heap.size,0,grownCap w (sl+n) sc elem⟩ (.cells ((ap m old).toArray++(ap m new).toArray++Builtin.zeroCells (ap m (bU z)).toArray (grownCap w (sl+n) sc elem-(sl+n))) elem) (w0:=w.drew) rfl rfl rfl rfl rfl
  ⟨_,elem,(0,0),rfl,⟨(λi v hv=>by
   rw[Nat.zero_add,Array.getElem?_append,if_pos (by
    have:=(List.getElem?_eq_some_iff.1 hv).1;simpa [b_]using this)]
   have:((ap m old).toArray++(ap m new).toArray)=(ap m (old++new)).toArray:=by rw[lL];simp
   rw[this];simp[fZ,hv]),hok,(λ_=>rfl),(λs hs=>by cases hs;exact⟨h0,rfl,hsize⟩)⟩⟩
 refine⟨_,_,_,?_,Cd (c:=0) (by simpa using hcap),hext⟩;have hnc:¬(Builtin.nextslicecap (sl+n) sc*inf.bytes > 2^48):=by
  have h1:=Ef (need:=sl+n) (cap:=sc) (by omega) hlim;have h2:Builtin.nextslicecap (sl+n) sc*inf.bytes<=20000000*100000:=Nat.mul_le_mul h1 hby
  omega
 have hmax:¬(((sl+n:Nat):Int) > IntKind.i64.max):=by
  simp only[IntKind.max,IntKind.bits,IntKind.signed,if_true];omega
 rw[hs]at hold ⊢;have ha0:(#[Value.slice base sl sc,aj m x]:Array Value)[0]? = some (.slice base sl sc):=rfl;have ha1:(#[Value.slice base sl sc,aj m x]:Array Value)[1]? = some (aj m x):=rfl;have hq:(Question.appendCap (sl+n) sc elem).cut (w.tape w.drawn (.appendCap (sl+n) sc elem))=grownCap w (sl+n) sc elem:=rfl;have hdr:({ w with drawn:=w.drawn+1 }:World)=w.drew:=rfl;have hrd:=bc hT hd w;clear hd;cases d
 case int k=>exact absurd rfl (hdi k)
 all_goals
  simp only[Builtin.append_,hts,htu,ha0,ha1,Sem.run_bind,bc hT he w,Result.andThen_ok,ek hT hsz w,hrd,Sem.run_pure,Bool.false_eq_true,if_false,qY hx,hn,o9 hT hinf w,hmax,false_and,hnc,run_choose,Question.forced,hq,hdr,o9 hT hinf w.drew,run_askRoom,hold,Bool.not_false,if_true,hnew,hz1,fG,newRow,run_newObj];simp only[oE,aj,jA,aC.next,fM,Nat.sub_zero,Nat.add_zero];rfl
theorem pu{ts:Array TypeId}{ty:TypeId}{new:List AV}{t u:TypeId}{base:Option Addr}{w':World}
 (hts:ts[0]? = some t) (htu:ts[1]? = some u) (he:T.und t=some (.slice elem)) (hu:oX T u) (hsz:gO T elem=some size)
 (hs:aj m s=.slice base sl sc) (hx:pJ x=some n) (hn:sl+n<=sc)
 (hnew:(Builtin.firstCells size n (aj m x)).run P w=.ok (ap m new).toArray w)
 (hst:∀a,base=some a->(storeCells (a.add (sl*size)) (ap m new) 0).run P w=.ok () w') (hst':base=none->w'=w) :
 (Builtin.append_ ts ty #[aj m s,aj m x]).run P w=.ok (.slice base (sl+n) sc) w':=by
 obtain⟨d,hd,hdi⟩:∃d,T.und u=some d/\∀k,d≠.int k:=by
  unfold oX at hu;split at hu
  . cases hu
  . rename_i d hne hd;exact⟨d,hd,λk e=>hne k e⟩
  . cases hu
 rw[hs];have ha0:(#[Value.slice base sl sc,aj m x]:Array Value)[0]? = some (.slice base sl sc):=rfl;have ha1:(#[Value.slice base sl sc,aj m x]:Array Value)[1]? = some (aj m x):=rfl;have hrd:=bc hT hd w;clear hd;cases d
 case int k=>exact absurd rfl (hdi k)
 all_goals
  simp only[Builtin.append_,hts,htu,ha0,ha1,Sem.run_bind,bc hT he w,Result.andThen_ok,ek hT hsz w,hrd,Sem.run_pure,Bool.false_eq_true,if_false,qY hx,hn,if_true,Bool.not_false,hnew];cases base with
  | none=>simp only[Sem.run_pure];rw[hst' rfl]
  | some a=>simp only[Sem.run_bind,hst a rfl,Result.andThen_ok,Sem.run_pure]
omit hT hi in
theorem tL(h:pJ s=some sl)(hs:lS s):s=.nilslice/\sl=0\/∃id off c,s=.slice id off sl c:=by
 cases s<;>simp[lS]at hs
 . simp only[pJ,Option.some.injEq]at h;subst h;exact .inr ⟨_,_,_,rfl⟩
 . simp only[pJ,Option.some.injEq]at h;exact .inl ⟨rfl,h.symm⟩
theorem Hz{ts:Array TypeId}{ty t u:TypeId}(hts:ts[0]? = some t)(htu:ts[1]? = some u)(hs:db D m s)(hx:db D m x)(h:pk T C o t u s x=some r) :
 ∃D' m' w',(Builtin.append_ ts ty #[aj m s,aj m x]).run P w=.ok (aj m' r.1) w'/\db D' m' r.1/\dk cfg C D m o w D' m' r.2 w':=by
 simp only[pk,ai,aA,Bool.and_eq_true]at h;obtain⟨elem,he,⟨⟨hni,hsm⟩,hsl⟩,size,hsz,z,hz,n,hn,sl,hl,h⟩:=h;have heu:=fq he;obtain⟨inf,hinf,hby⟩:=xB hT hsm;have hslc:=tL hl hsl;by_cases hn0:n=0
 . rw[gb hn0,cond_true,aA,Option.some.injEq]at h;obtain⟨hfit,rfl⟩:=h;subst hn0;have hfc:(Builtin.firstCells size 0 (aj m x)).run P w=.ok (ap m []).toArray w:=by
    cases x<;>simp[pJ]at hn<;>simp[aj,Builtin.firstCells,ap,loadCells,loadCellsFrom]
   refine⟨D,m,w,?_,hs,dk.refl hi⟩;rcases hslc with⟨rfl,rfl⟩|⟨id,off,c,rfl⟩
   . have:=pu (ty:=ty) (sc:=0) (w':=w) hT hi hts htu heu hni hsz (s:=.nilslice) (base:=none) (sl:=0) rfl hn (Nat.le_refl _) hfc (λa e=>by cases e) (λ_=>rfl);simpa [aj]using this
   . have hroom:sl<=jA (m id) c:=by
      cases c with
      | known c=>exact bv.1 hfit
      | rest k=>
        have:=(hs (id,sl+k) (by simp[aD,fj])).2;simp only[jA]at this ⊢;omega
     have:=pu (ty:=ty) (w':=w) hT hi hts htu heu hni hsz (s:=.slice id off sl c) rfl hn hroom hfc (λa e=>by simp[ap,storeCells]) (λe=>by cases e);simpa [aj]using this
 . rw[g7 hn0,cond_false,aA]at h;simp only[Bool.and_eq_true,Jk,bv,aS,cO,ai,aA]at h;obtain⟨⟨⟨⟨⟨hlim,h0⟩,hs1⟩,hzl⟩,hstr⟩,new,hnew,hone,h⟩:=h;obtain⟨hfr,hfo⟩:=ks (P:=P) hi hx hnew;have hid:dV cfg D m C o w.drew:=hi.world λ_ _ _=>rfl;obtain⟨hfr',_⟩:=ks (P:=P) hid hx hnew;have hnl:=yx hnew (λs e=>by subst e;exact cO.1 hstr);rcases hslc with⟨rfl,rfl⟩|⟨id,off,c,rfl⟩
   . simp only[jy,Option.some.injEq]at h;subst h;have:=qh (ty:=ty) (old:=[]) (base:=none) (sc:=0) hT hi hts htu heu hni hinf hby hz hsz hzl h0 (s:=.nilslice) (sl:=0) rfl hn (by omega) (by omega) (by simp[aj,Builtin.firstCells,ap]) hfr' fH hfo (by simp) hnl;simpa using this
   . have hd:D id:=(hs (id,fj sl c) (by simp[aD])).1;have hneed:=(hs (id,fj sl c) (by simp[aD])).2;cases c with
     | known c=>
       simp only[jy,appendCap,kR]at h;by_cases hcap:sl+n<=c
       . rw[bv.2 hcap,cond_true,ai]at h;obtain⟨o',hw,h⟩:=h;simp only[Option.some.injEq]at h;subst h;obtain⟨w',hw1,hw2⟩:=qt (P:=P) hi hd hfo hone hw;have:=pu (ty:=ty) (w':=w') hT hi hts htu heu hni hsz (s:=.slice id off sl (.known c)) rfl hn (by simpa [jA]using hcap) hfr (λa e=>by
          cases e;rw[gU,Nat.add_assoc];exact hw1) (λe=>by cases e)
         refine⟨D,m,w',?_,?_,hw2⟩
         . simpa [aj,jA]using this
         . intro i hm;simp only[aD,List.mem_singleton,fj]at hm;subst hm;exact⟨hd,Nat.zero_le _⟩
       . rw[jK hcap,cond_false,ai]at h;obtain⟨old,hold,h⟩:=h;simp only[Option.some.injEq]at h;subst h;have hof:jG C o size sl (.slice id off sl (.known c))=some old:=by
          simp only[jG,aA,bv];exact⟨Nat.le_refl _,hold⟩
         obtain⟨hor,hoo⟩:=ks (P:=P) hid hs hof;exact qh (ty:=ty) hT hi hts htu heu hni hinf hby hz hsz hzl h0 rfl hn (by simpa [jA]using hcap) hlim hor hfr' hoo hfo (yx hof (λs e=>by cases e)) hnl
     | rest k=>
       simp only[jy,appendCap,mV,aA,Bool.and_eq_true,cO,ai]at h;obtain⟨⟨rfl,rfl⟩,y,hy,cs,hcs,h⟩:=h;simp only[Option.some.injEq]at h;subst h;simp only[fj,Nat.add_zero]at hneed;cases y<;>simp only[yF,reduceCtorEq]at hcs;rename_i cs' rw g;cases rw<;>cases g<;>simp only[reduceCtorEq,aA,Bool.and_eq_true,cO,Option.some.injEq]at hcs;obtain⟨⟨rfl,hcl⟩,rfl⟩:=hcs;rename_i size;have hob:=hi.obj id hd;rw[gf hy]at hob;obtain⟨c,e,fz,hb,hr⟩:=hob;obtain rfl:=hr.free rfl;obtain⟨_,hbase,hcsz⟩:=hr.grow size rfl;have hk:=dk.put (w':=w) hi (x:=.dead) hd hy rfl (Nat.le_refl _) (λ_ _=>rfl) trivial rfl rfl rfl;have hnx:(eF C o id .dead).next C=C.lo+o.n:=by simp[aC.next,tR]
       by_cases hcap:sl+n<=(m id).cap
       . have hlen:sl*size+n*size<=(m id).cap*size:=by rw[<-Nat.add_mul];exact Nat.mul_le_mul_right _ hcap
         have hst:=run_storeCells_at P (m id).blk (sl*size) e (ap m new) 0 c w hb (by rw[b_,hnl,hcsz];omega) (λv hvm=>by
          rw[fh]at hvm;obtain⟨q,hq,rfl⟩:=List.mem_map.1 hvm;exact zH (p9.1 hone q hq))
         have hap:=pu (ty:=ty) hT hi hts htu heu hni hsz (s:=.slice id 0 sl (.rest 0)) rfl hn (by simpa [jA]using hcap) hfr (λa e=>by
          cases e;rw[gU,hbase,Nat.add_zero,Nat.zero_add];exact hst) (λe=>by cases e)
         have hg:dk cfg C D m (eF C o id .dead) w (wV D (C.lo+(eF C o id .dead).n)) (zm m (C.lo+(eF C o id .dead).n) ⟨(m id).blk,0,(m id).cap⟩) ((eF C o id .dead).push (.cells (cs'++new) true (some size))) (w.setRow (m id).blk (c.toList.take (sl*size+0)++ap m new++c.toList.drop (sl*size+0+(ap m new).length)).toArray):=by
          refine dk.again hk.inv hd (by rw[gZ qp,hy];rfl) rfl (λj hj hlj=>?_) (λk hk=>setRow_other _ _ _ _ hk) (Nat.le_of_eq (u_ _ _ _).symm) ?_ rfl rfl rfl
          . rw[vZ hi.len (hi.lt id hd) (hi.lt j hj) (by rw[hy];rfl)]at hlj;by_cases ej:j=id
            . rw[if_pos ej]at hlj;cases hlj
            . rw[if_neg ej]at hlj;exact hi.inj j id hj hd ej hlj (by rw[gf hy];rfl)
          . refine⟨_,e,(0,0),setRow_heap w _ c _ e _ hb,⟨λi v hv=>?_,eA.2 ⟨hr.okc,hfo⟩,λ_=>rfl,λs hs=>?_⟩⟩
            . simp only[Nat.add_zero,Nat.zero_add,List.getElem?_toArray];rw[List.append_assoc,List.getElem?_append,List.length_take,Array.length_toList,Nat.min_eq_left (by omega)];rw[List.getElem?_append,hcl]at hv;by_cases hi1:i<sl*size
              . rw[if_pos hi1]at hv ⊢;have:=hr.at' i v hv;rw[hbase,Nat.zero_add]at this;rw[List.getElem?_take_of_lt hi1,Array.getElem?_toList];exact this
              . rw[if_neg hi1]at hv ⊢;have:=(List.getElem?_eq_some_iff.1 hv).1;rw[List.getElem?_append,if_pos (by rw[b_];exact this),fZ,hv];rfl
            . cases hs;refine⟨h0,rfl,?_⟩;simp only[Nat.add_zero,List.size_toArray,List.length_append,List.length_take,List.length_drop,Array.length_toList,b_,hnl];rw[hcsz];omega
         refine⟨_,_,_,?_,Cd (c:=0) (n:=(eF C o id .dead).next C) (l:=⟨(m id).blk,0,(m id).cap⟩) (m:=m) (D:=D) hcap,hk.trans hg⟩;rw[hap];simp only[oE,aj,jA,aC.next,fM,Nat.sub_zero,Nat.add_zero,hbase]
       . have hof:jG C o size sl (.slice id 0 sl (.rest 0))=some cs':=by
          simp only[jG,aA,bv];refine⟨Nat.le_refl _,?_⟩;simp only[mc,gf hy,cellsOf,ob,jW,List.drop_zero];rw[<-hcl,List.take_length,gb rfl];rfl
         obtain⟨hor,hoo⟩:=ks (P:=P) hid hs hof;have hki:dV cfg D m C (eF C o id .dead) w:=hk.inv;obtain⟨D',m',w',h1,h2,h3⟩:=qh (ty:=ty) hT hki hts htu heu hni hinf hby hz hsz hzl h0 (s:=.slice id 0 sl (.rest 0)) rfl hn (by simpa [jA]using hcap) hlim hor hfr' hoo hfo (by omega) hnl;exact⟨D',m',w',h1,h2,hk.trans h3⟩
end
section
variable{P:Program}{T:fb}(hT:fF P T){cfg:cG}{C:bg}{D:Nat->Prop}{m:Nat->bq}{o:aC}{w:World}(hi:dV cfg D m C o w)
include hT hi
theorem Ns{ts:Array TypeId}{ty t:TypeId}{d:AV}(hts:ts[0]? = some t)(hd:db D m d)(hs:db D m s)(h:Ai T C o t d s=some r) :
 ∃D' m' w',(Builtin.copy_ ts ty #[aj m d,aj m s]).run P w=.ok (aj m' r.1) w'/\db D' m' r.1/\dk cfg C D m o w D' m' r.2 w':=by
 simp only[Ai,ai,aA]at h;obtain⟨elem,he,hsl,size,hsz,dl,hdl,sl,hsl',cs,hcs,h⟩:=h;obtain⟨hfr,hfo⟩:=ks (P:=P) hi hs hcs;have hmin:Lk sl dl=Nat.min sl dl:=by
  unfold Lk;by_cases hle:sl<=dl
  . rw[bv.2 hle,cond_true];exact(Nat.min_eq_left hle).symm
  . rw[jK hle,cond_false];exact(Nat.min_eq_right (by omega)).symm
 have ha1:∀x y:Value,(#[x,y]:Array Value)[1]? = some y:=λ_ _=>rfl;have ha0:∀x y:Value,(#[x,y]:Array Value)[0]? = some x:=λ_ _=>rfl;rcases tL hdl hsl with⟨rfl,rfl⟩|⟨id,off,c,rfl⟩
 . simp only[sK,Option.some.injEq]at h;subst h;refine⟨D,m,w,?_,by rw[gD];exact wt,dk.refl hi⟩;rw[hmin]at hfr ⊢;simp only[Builtin.copy_,hts,ha0,ha1,Sem.run_bind,bc hT (fq he) w,Result.andThen_ok,aj,qY hsl',ek hT hsz w,hfr,Sem.run_pure,gD,Go.goInt]
 . have hdd:D id:=(hd (id,fj dl c) (by simp[aD])).1;simp only[sK,aA,ai,Option.some.injEq]at h;obtain⟨hone,o',hw,rfl⟩:=h;obtain⟨w',hw1,hw2⟩:=qt (P:=P) hi hdd hfo hone hw;refine⟨D,m,w',?_,by rw[gD];exact wt,hw2⟩;rw[hmin]at hfr ⊢;simp only[Builtin.copy_,hts,ha0,ha1,Sem.run_bind,bc hT (fq he) w,Result.andThen_ok,aj,qY hsl',ek hT hsz w,hfr,hw1,Sem.run_pure,gD,Go.goInt]
omit hi in
theorem Qc{ts:Array TypeId}{ty t:TypeId}{v:AV}(hts:ts[0]? = some t)(h:H4 x (T.und t)=some v):(Builtin.len_ ts ty #[aj m x]).run P w=.ok (aj m v) w/\aD v=[]:=by
 have ha0:∀x:Value,(#[x]:Array Value)[0]? = some x:=λ_=>rfl;cases hu:T.und t with
 | none=>simp[hu,H4]at h
 | some d=>
   cases d<;>simp only[hu,H4,reduceCtorEq]at h
   . cases x<;>simp only[reduceCtorEq,Option.some.injEq]at h;subst h;rw[gD];refine⟨?_,by simp[aD]⟩;simp only[Builtin.len_,hts,ha0,Sem.run_bind,bc hT hu w,Result.andThen_ok,aj,Sem.run_pure,Go.goInt];rfl
   . cases x<;>simp only[reduceCtorEq,Option.some.injEq]at h<;>subst h<;>rw[gD]<;>refine⟨?_,by simp[aD]⟩<;>
      simp only[Builtin.len_,hts,ha0,Sem.run_bind,bc hT hu w,Result.andThen_ok,aj,Sem.run_pure,Go.goInt]<;>rfl
   . simp only[Option.some.injEq]at h;subst h;rw[gD];refine⟨?_,by simp[aD]⟩;simp only[Builtin.len_,hts,ha0,Sem.run_bind,bc hT hu w,Result.andThen_ok,aj,Sem.run_pure,Go.goInt]
omit hi in
theorem QL{ts:Array TypeId}{ty t:TypeId}{v:AV}(hts:ts[0]? = some t)(h:HX x (T.und t)=some v):(Builtin.cap_ ts ty #[aj m x]).run P w=.ok (aj m v) w/\aD v=[]:=by
 have ha0:∀x:Value,(#[x]:Array Value)[0]? = some x:=λ_=>rfl;cases hu:T.und t with
 | none=>simp[hu,HX]at h
 | some d=>
   rw[hu]at h;cases d<;>simp only[HX,reduceCtorEq]at h;cases x<;>(try simp only[reduceCtorEq,Option.some.injEq]at h)
   . rename_i id off len c;cases c<;>simp only[reduceCtorEq,Option.some.injEq]at h;subst h;rw[gD];refine⟨?_,by simp[aD]⟩;simp only[Builtin.cap_,hts,ha0,Sem.run_bind,bc hT hu w,Result.andThen_ok,aj,Sem.run_pure,Go.goInt,jA]
   . subst h;rw[gD];refine⟨?_,by simp[aD]⟩;simp only[Builtin.cap_,hts,ha0,Sem.run_bind,bc hT hu w,Result.andThen_ok,aj,Sem.run_pure,Go.goInt]
omit hT hi in
theorem Ca{k:IntKind}:∀{vs:List AV} {acc:Int} {v:AV},pw gQ k acc vs=some v->((ap m vs).foldlM Builtin.min2 (.int k acc)).run P w=.ok (aj m v) w/\aD v=[]
 | [],acc,v,h=>by cases h;simp[ap,aj,aD]
 | x::vs,acc,v,h=>by
   cases x<;>simp only[pw,reduceCtorEq]at h;rename_i k' y;obtain⟨h1,h2⟩:=Ca h;refine⟨?_,h2⟩;have e:gQ acc y=if y<acc then y else acc:=by
    unfold gQ;rw[ea];by_cases hle:acc<=y
    . rw[decide_eq_true hle,cond_true,if_neg (by omega)]
    . rw[decide_eq_false hle,cond_false,if_pos (by omega)]
   rw[e]at h1;simpa [ap,aj,Builtin.min2]using h1
omit hT hi in
theorem Cj{k:IntKind}:∀{vs:List AV} {acc:Int} {v:AV},pw kI k acc vs=some v->((ap m vs).foldlM Builtin.max2 (.int k acc)).run P w=.ok (aj m v) w/\aD v=[]
 | [],acc,v,h=>by cases h;simp[ap,aj,aD]
 | x::vs,acc,v,h=>by
   cases x<;>simp only[pw,reduceCtorEq]at h;rename_i k' y;obtain⟨h1,h2⟩:=Cj h;refine⟨?_,h2⟩;have e:kI acc y=if y > acc then y else acc:=by
    unfold kI;rw[ea];by_cases hle:y<=acc
    . rw[decide_eq_true hle,cond_true,if_neg (by omega)]
    . rw[decide_eq_false hle,cond_false,if_pos (by omega)]
   rw[e]at h1;simpa [ap,aj,Builtin.max2]using h1
theorem EY{b:Builtin}{ts:Array TypeId}{ty:TypeId}{consts:Array Bool}{vs:List AV}(hv:fN D m vs)(h:fU T C o b ts.toList vs=some r):gI P cfg C D m o w (Go.builtin b ts ty consts (ap m vs).toArray) r:=by
 have ht:∀i,ts.toList[i]? = ts[i]? := λi=>Array.getElem?_toList;unfold fU at h;cases b<;>(try simp only[reduceCtorEq]at h)
 case append=>
  simp only[ai,ht]at h;obtain⟨t,h0,u,h1,h⟩:=h
  match vs,h,hv with
  | [s,x],h,hv=>
    have hs:=(ct.1 hv).1;have hx:=(ct.1 (ct.1 hv).2).1;obtain⟨D',m',w',hr,ho,he⟩:=Hz (ty:=ty) hT hi h0 h1 hs hx h;exact⟨D',m',w',_,by simp only[Go.builtin,Sem.run_bind,ap];rw[hr];rfl,.inl rfl,ho,he⟩
  | [],h,_=>cases h
  | [_],h,_=>cases h
  | _::_::_::_,h,_=>cases h
 case cap=>
  simp only[bN,ai,ht]at h;obtain⟨⟨t,h0,h⟩,ho⟩:=h
  match vs,h with
  | [x],h=>
    obtain⟨h1,h2⟩:=QL (P:=P) (m:=m) (w:=w) (ty:=ty) hT h0 h;exact gI.pure hi ho (by simp only[Go.builtin,Sem.run_bind,ap];rw[h1];rfl) (bQ h2)
  | [],h=>cases h
  | _::_::_,h=>cases h
 case copy=>
  simp only[ai,ht]at h;obtain⟨t,h0,h⟩:=h
  match vs,h,hv with
  | [s,x],h,hv=>
    have hs:=(ct.1 hv).1;have hx:=(ct.1 (ct.1 hv).2).1;obtain⟨D',m',w',hr,ho,he⟩:=Ns (ty:=ty) hT hi h0 hs hx h;exact⟨D',m',w',_,by simp only[Go.builtin,Sem.run_bind,ap];rw[hr];rfl,.inl rfl,ho,he⟩
  | [],h,_=>cases h
  | [_],h,_=>cases h
  | _::_::_::_,h,_=>cases h
 case len=>
  simp only[bN,ai,ht]at h;obtain⟨⟨t,h0,h⟩,ho⟩:=h
  match vs,h with
  | [x],h=>
    obtain⟨h1,h2⟩:=Qc (P:=P) (m:=m) (w:=w) (ty:=ty) hT h0 h;exact gI.pure hi ho (by simp only[Go.builtin,Sem.run_bind,ap];rw[h1];rfl) (bQ h2)
  | [],h=>cases h
  | _::_::_,h=>cases h
 case max=>
  simp only[bN]at h;obtain⟨h,ho⟩:=h
  match vs,h with
  | .int k x::rest,h=>
    obtain⟨h1,h2⟩:=Cj (P:=P) (m:=m) (w:=w) h;refine gI.pure hi ho ?_ (bQ h2);simp only[Go.builtin,Builtin.max_,Sem.run_bind,ap,aj];rw[h1];rfl
  | [],h=>cases h
  | .bool _::_,h=>cases h
  | .str _::_,h=>cases h
  | .ptr ..::_,h=>cases h
  | .nilptr::_,h=>cases h
  | .slice ..::_,h=>cases h
  | .nilslice::_,h=>cases h
  | .func ..::_,h=>cases h
  | .nilfunc::_,h=>cases h
  | .iface ..::_,h=>cases h
  | .niliface::_,h=>cases h
  | .agg _::_,h=>cases h
  | .tuple _::_,h=>cases h
  | .map _::_,h=>cases h
  | .nilmap::_,h=>cases h
 case min=>
  simp only[bN]at h;obtain⟨h,ho⟩:=h
  match vs,h with
  | .int k x::rest,h=>
    obtain⟨h1,h2⟩:=Ca (P:=P) (m:=m) (w:=w) h;refine gI.pure hi ho ?_ (bQ h2);simp only[Go.builtin,Builtin.min_,Sem.run_bind,ap,aj];rw[h1];rfl
  | [],h=>cases h
  | .bool _::_,h=>cases h
  | .str _::_,h=>cases h
  | .ptr ..::_,h=>cases h
  | .nilptr::_,h=>cases h
  | .slice ..::_,h=>cases h
  | .nilslice::_,h=>cases h
  | .func ..::_,h=>cases h
  | .nilfunc::_,h=>cases h
  | .iface ..::_,h=>cases h
  | .niliface::_,h=>cases h
  | .agg _::_,h=>cases h
  | .tuple _::_,h=>cases h
  | .map _::_,h=>cases h
  | .nilmap::_,h=>cases h
end
def cI:gk->List Nat
 | .bar ids=>ids
 | _=>[]
def jX(P:Program)(f:FuncId)(args:Array Value)(w:World)(R:Value->World->Prop):Prop:=
 ((callFunc f args).run P w=.ok (.enter f args) w/\Calls P f args w λe w'=>∃v,e=.returned v/\R v w')\/∃v w',(callFunc f args).run P w=.ok (.value v) w'/\R v w'
theorem jX.mono{P:Program}{f:FuncId}{args:Array Value}{R R':Value->World->Prop}(h:jX P f args w R)(hr:∀v w',R v w'->R' v w'):jX P f args w R':=
 h.elim (λ⟨a,b⟩=>.inl ⟨a,b.mono λ_ _ ⟨v,e,r⟩=>⟨v,e,hr _ _ r⟩⟩) λ⟨v,w',a,b⟩=>.inr ⟨v,w',a,hr _ _ b⟩
def FR(x:Option Nat):Fence:={ Fence.wide with round:=x }
theorem Gm{x:Option Nat}{P:Program}{f:FuncId}{args:Array Value}{R:Ending->World->Prop}(h:Calls P f args w R):CallsIn (FR x) n P f args w R:=
 (callsIn_wide.2 h:CallsIn Fence.wide n P f args w R)
def Px(P:Program)(l:Nat)(args:Array Value)(w:World)(R:Value->World->Prop):Prop:=
 ∃fn tmps assign body,(Instr.yield l args).run P w=.ok (.round l fn tmps assign body) w/\RoundIn Fence.wide 0 P l fn tmps assign body w λe w'=>∃v,e=.returned v/\R v w'
def ni(D:Nat->Prop)(w:World)(D':Nat->Prop)(m':Nat->bq)(w':World):Prop:=
 (∀k,k<w.heap.size->w'.heap[k]? = w.heap[k]?)/\∀i,D' i->¬D i->w.heap.size<=(m' i).blk
def jF(P:Program)(cfg:cG)(mu:Prop)(call:bg->FuncId->List AV->aC->Option (AV×aC)):Prop:=
 ∀C f args o r,call C f args o=some r->∀D m w,dV cfg D m C o w->fN D m args->
  jX P f (ap m args).toArray w λV w'=>∃D' m',V=aj m' r.1/\db D' m' r.1/\dk cfg C D m o w D' m' r.2 w'/\(mu->dw args (cfg.lend f)=[]->ni D w D' m' w')
def CO(P:Program)(cfg:cG)(mu:Prop)(rnd:bg->Nat->List AV->aC->Option (AV×aC)):Prop:=
 ∀C id args o r,rnd C id args o=some r->(mu->False)/\∀D m w,dV cfg D m C o w->D id->fN D m args->
  Px P (m id).blk (ap m args).toArray w λV w'=>∃D' m',V=aj m' r.1/\db D' m' r.1/\dk cfg C D m o w D' m' r.2 w'
theorem wi{P:Program}{cfg:cG}{mu:Prop}:CO P cfg mu sY:=λC id args o r h=>by cases h
section
variable{P:Program}{T:fb}(hT:fF P T){cfg:cG}{C:bg}{D:Nat->Prop}{m:Nat->bq}{o:aC}{w:World}(hi:dV cfg D m C o w){ρ:Operand->Option AV}
include hT hi
theorem QZ{ev:Operand->Value}(hρ:lJ D m ρ ev){oo:Oper}(h:Do T C ρ o oo.op=some r):tG P cfg C D m o w ev oo r:=by
 unfold Do at h;cases ho:oo.op<;>rw[ho]at h<;>simp only[gT]at h
 case move=>exact E8 hi hρ (.inl ho) h
 case assign=>exact E8 hi hρ (.inr ho) h
 case pick=>exact N2 hi hρ ho h
 case alloc=>exact LZ hT hi hρ ho h
 case box=>exact SB hi hρ ho h
 case build=>exact Ik hT hi hρ ho h
 case buildSlice=>exact yR hT hi hρ ho h
 case insert=>exact Di hT hi hρ (.inl ho) h
 case load=>exact MI hT hi hρ ho h
 case store=>exact II hT hi hρ ho h
 case nilCheck=>exact CK hi hρ ho h
 case binOp=>exact SI hT hi hρ ho h
 case unOp=>exact Ws hi hρ ho h
 case convert=>exact Ep hT hi hρ ho h
 case makeInterface=>exact JL hT hi hρ ho h
 case makeFunc=>exact M5 hi hρ ho h
 case makeMap=>exact D7 hi hρ ho h
 case makeSlice=>exact AK hT hi hρ ho h
 case slice=>exact Im hT hi hρ ho h
 case fieldAddr=>exact Bv hT hi hρ ho h
 case field=>exact Il hT hi hρ ho h
 case indexAddr=>exact AQ hT hi hρ ho h
 case index=>exact KI hT hi hρ ho h
 case lookup=>exact HR hT hi hρ ho h
 case mapUpdate=>exact Di hT hi hρ (.inr ho) h
 case range=>exact J8 hT hi hρ ho h
 case next=>exact Og hi hρ ho h
 case extract=>exact EM hi hρ ho h
 all_goals cases h
theorem r_{mu:Prop}{x:Option Nat}{a:Act}(hρ:lJ D m ρ a.eval){call:bg->FuncId->List AV->aC->Option (AV×aC)}{rnd:bg->Nat->List AV->aC->Option (AV×aC)}(hc:jF P cfg mu call)(hrd:CO P cfg mu rnd)
 {oo:Oper} {r:AV×aC} (h:gM T call rnd C ρ o oo.op=some r)
 {next:Act->World->Prop} {Q:Exit->Act->World->Prop} (hn:∀D' m' w',db D' m' r.1->dk cfg C D m o w D' m' r.2 w'->(mu->b8 oo.op=.call->cI (cW cfg ρ oo.op)=[]->ni D w D' m' w')->next (a.put oo.dst (aj m' r.1)) w'):oo.wpIn (FR x) 0 P a w next Q:=by
 have hnd:∀c,oo.op≠.defer c:=λc e=>by rw[e]at h;cases h
 have hsem:oo.semAt (FR x).round a.eval=execOp a.eval oo:=Oper.semAt_eq _ _ _ hnd;have hdep:∀k:Nat,(FR x).depth.isSome->1<=k:=λk hk=>by cases hk
 unfold Oper.wpIn;refine⟨λ_ _=>trivial,?_⟩;rw[hsem];have fin:b8 oo.op≠.call->gI P cfg C D m o w (execOp a.eval oo) r->oo.uponIn (FR x) 0 P a next Q ((execOp a.eval oo).run P w):=by
  rintro hk ⟨D',m',w',nx,hr,hx,hv,he⟩;rw[hr];rcases hx with rfl|⟨rfl,hu⟩
  . exact hn D' m' w' hv he λ_ e=>absurd e hk
  . have:=hn D' m' w' hv he λ_ e=>absurd e hk;rw[hu,iW]at this;exact this
 unfold gM at h;split at h
 . rename_i c hoc;unfold rq at h;cases hcal:c.callee with
   | value f=>
     simp only[hcal,ai]at h;obtain⟨fv,hf,vs,hvs,h⟩:=h;obtain⟨h1,h2⟩:=hρ f _ hf;obtain⟨h3,h4⟩:=kC hρ hvs;cases fv<;>simp only[GE,reduceCtorEq]at h
     . rename_i fid first captured
       have hok:fN D m (first++vs++captured):=by
        have:fN D m first/\fN D m captured:=⟨λi hm=>h2 i (by simp[aD,hm]),λi hm=>h2 i (by simp[aD,hm])⟩
        exact eA.2 ⟨eA.2 ⟨this.1,h4⟩,this.2⟩
       have hcs:=hc C fid _ o r h D m w hi hok;have hargs:(ap m first).toArray++(ap m vs).toArray++(ap m captured).toArray=(ap m (first++vs++captured)).toArray:=by
        simp[lL]
       have hex:∀nx w',(callFunc fid (ap m (first++vs++captured)).toArray).run P w=.ok nx w'->(execOp a.eval oo).run P w=.ok nx w':=by
        intro nx w' hrun;simp only[execOp,hoc,resolve,hcal,h1,aj,Deferred.ofValue,h3,Sem.run_bind,Sem.run_pure,Result.andThen_ok,invoke];rw[hargs];exact hrun
       have hmu:∀D' m' w',(mu->dw (first++vs++captured) (cfg.lend fid)=[]->ni D w D' m' w')->mu->b8 oo.op=.call->cI (cW cfg ρ oo.op)=[]->ni D w D' m' w':=by
        intro D' m' w' hm hmu _ hf';refine hm hmu ?_;simp only[hoc,cW,hcal,vD,hf,hvs,Gz]at hf';cases hna:dw (first++vs++captured) (cfg.lend fid)with
        | nil=>rfl
        | cons x xs=>rw[hna]at hf';cases hf'
       rcases hcs with⟨hent,hcalls⟩|⟨v,w',hval,D',m',rfl,hv,he,hm⟩
       . rw[hex _ _ hent,Oper.uponIn_enter];refine⟨hdep _,CallsIn.mono (Gm hcalls) ?_⟩;rintro e w' ⟨v,rfl,D',m',rfl,hv,he,hm⟩;exact hn D' m' w' hv he (hmu D' m' w' hm)
       . rw[hex _ _ hval,Oper.uponIn_value];exact hn D' m' w' hv he (hmu D' m' w' hm)
     . rename_i id;obtain⟨hmf,hrr⟩:=hrd C id vs o r h;obtain⟨fn,tmps,assign,body,hy,hR⟩:=hrr D m w hi (h2 _ (by simp[aD];rfl)).1 h4;have hex:∀nx w',(Instr.yield (m id).blk (ap m vs).toArray).run P w=.ok nx w'->(execOp a.eval oo).run P w=.ok nx w':=by
        intro nx w' hrun;simp only[execOp,hoc,resolve,hcal,h1,aj,Deferred.ofValue,h3,Sem.run_bind,Sem.run_pure,Result.andThen_ok,invoke];simpa using hrun
       rw[hex _ _ hy,Oper.uponIn_round];refine⟨hdep _,RoundIn.mono (F:=FR x) hR ?_⟩;rintro e w' ⟨v,rfl,D',m',rfl,hv,he⟩;exact hn D' m' w' hv he λhm=>(hmf hm).elim
   | builtin b=>
     simp only[hcal,ai]at h;obtain⟨vs,hvs,h⟩:=h;obtain⟨h3,h4⟩:=kC hρ hvs;refine fin (by rw[hoc];simp only[b8,hcal,O1];cases b<;>simp[OG]) ?_;obtain⟨D',m',w',nx,hr,hx⟩:=EY (ty:=oo.type) (consts:=c.args.map λ|.const _=>true|_=>false) hT hi h4 h;refine⟨D',m',w',nx,?_,hx⟩;simp only[execOp,hoc,resolve,hcal,h3,Sem.run_bind,Sem.run_pure,Result.andThen_ok,invoke];exact hr
   | invoke x n=>simp[hcal]at h
 . rename_i hne;refine fin (λe=>?_) (QZ hT hi hρ h);cases hop:oo.op<;>rw[hop]at e<;>simp only[b8,reduceCtorEq]at e;exact hne _ hop
end
theorem GM{D:Nat->Prop}{m:Nat->bq}{a:Act}(ht:TR D m st a){ops:Array Oper}{oo:Oper}:Region.wanted oo (yielded ops a.tmps)=eE ops st.ts oo.guard:=by
 unfold Region.wanted eE;cases oo.guard with
 | none=>rfl
 | some jw=>
   obtain⟨j,want⟩:=jw;simp only[yielded];cases hj:ops[j]? with
   | none=>simp
   | some op=>
     cases hd:op.dst with
     | none=>simp[hd,rn]
     | some t=>
       have hat:=ht.at' t;simp only[Option.bind_some,hd,rn];cases hg:a.tmps[t]? with
       | none=>
         have:a.tmps.getD t undef=undef:=by
          grind
         rw[this]at hat;cases hv:st.ts.get t<;>rw[hv]at hat<;>simp[aj,undef]at hat<;>first|rfl|(subst hat;rfl)
       | some v=>
         have:a.tmps.getD t undef=v:=by simp[hg]
         rw[this]at hat;subst hat;cases hv:st.ts.get t with
         | any v=>simp only[aj,yE];cases v<;>simp[Bw,rM]
         | _=>simp[aj,yE,rM]
theorem Hr{cfg:cG}{D:Nat->Prop}{m:Nat->bq}{a:Act}(hi:dV cfg D m C st.o w)(ht:TR D m st a):lJ D m (e9 cfg.G st.ts) a.eval:=λ_ _ h=>mI hi ht h
section
variable{P:Program}{T:fb}(hT:fF P T){cfg:cG}{C:bg}{mu:Prop}{call:bg->FuncId->List AV->aC->Option (AV×aC)}{rnd:bg->Nat->List AV->aC->Option (AV×aC)}(hc:jF P cfg mu call)(hrd:CO P cfg mu rnd)
include hT hc hrd
theorem Ej{ops:Array Oper}{Q:Exit->Act->World->Prop}{x:Option Nat}:∀(l:List Oper) (k:Nat),ops.toList.drop k=l->∀{D:Nat->Prop} {m:Nat->bq} {st st':St} {a:Act} {w:World},dV cfg D m C st.o w->TR D m st a->BZ T cfg call rnd C ops l st=some st'->
 (∀D' m' a' w',TR D' m' st' a'->dk cfg C D m st.o w D' m' st'.o w'->Q .normal a' w')->wpOpsIn (FR x) 0 P ops Q (List.range' k l.length) a w
 | [],k,hl,D,m,st,st',a,w,hi,ht,h,hq=>by
   cases h;exact hq D m a w ht (dk.refl hi)
 | oo::rest,k,hl,D,m,st,st',a,w,hi,ht,h,hq=>by
   have hk:ops[k]? = some oo:=by
    have:(ops.toList.drop k)[0]? = some oo:=by rw[hl];rfl
    rw[List.getElem?_drop]at this;simpa using this
   have hrest:ops.toList.drop (k+1)=rest:=by
    rw[<-List.drop_drop,hl];rfl
   simp only[BZ,ai]at h;obtain⟨st1,hs,h⟩:=h;simp only[List.length_cons,List.range'_succ,wpOpsIn,hk];rw[GM ht];cases hw:eE ops st.ts oo.guard with
   | true=>
     rw[hw,cond_true,ai]at hs;obtain⟨r,hr,hp⟩:=hs;rw[if_pos rfl];refine r_ hT hi (Hr hi ht) hc hrd hr λD' m' w' hv he _=>?_;obtain⟨ht',ho,_⟩:=(ht.mono he.sub he.same).put hp hv;have hi':dV cfg D' m' C st1.o w':=by rw[ho];exact he.inv
     refine Ej rest (k+1) hrest hi' ht' h λD2 m2 a2 w2 ht2 he2=>hq D2 m2 a2 w2 ht2 ?_;rw[ho]at he2;exact he.trans he2
   | false=>
     rw[hw,cond_false]at hs;rw[if_neg (by simp)];refine⟨λ_ _=>trivial,?_⟩;obtain⟨ht',ho,_⟩:=ht.put hs ik;rw[iW]at ht';have hi':dV cfg D m C st1.o w:=by rw[ho];exact hi
     refine Ej rest (k+1) hrest hi' ht' h λD2 m2 a2 w2 ht2 he2=>hq D2 m2 a2 w2 ht2 ?_;rw[ho]at he2;exact he2
end
end Go.Ev
