import Derived.RangeFuncIn
import Derived.RangeFuncSeq
import Derived.Test.YtoghlpcacfnjbaaGreatDoorP06
set_option linter.all false
set_option maxRecDepth 100000
set_option maxHeartbeats 4000000
namespace Go.Ev
open Go Go.RowKit
variable{C:bg}{w:World}{l:bv}{size n elem sl sc:Nat}{x s:AV}{r:AV×aB}{st:St}
theorem A8(newLen:Nat):∀(r c:Nat),Builtin.growBy newLen r c<=2^r*(c+768)
 | 0,c=>by simp[Builtin.growBy]
 | r+1,c=>by
   have hp:2^(r+1)=2*2^r:=by rw[Nat.pow_succ];omega
   have h1:0<2^r:=Nat.two_pow_pos r;unfold Builtin.growBy;split
   . rw[hp,Nat.mul_assoc];have:1*(c+768)<=2^r*(c+768):=Nat.mul_le_mul_right _ h1;omega
   . refine Nat.le_trans (A8 newLen r _) ?_;rw[hp,Nat.mul_comm 2,Nat.mul_assoc];exact Nat.mul_le_mul_left _ (by omega)
theorem Fy{need cap:Nat}(h:cap<need)(hn:need<=1000000):Builtin.nextslicecap need cap<=20000000:=by
 unfold Builtin.nextslicecap;split
 . omega
 . split
   . omega
   . refine Nat.le_trans (A8 need 4 cap) ?_;omega
theorem dw.q0{cfg:cL}{D:Nat->Prop}{m:Nat->bv}{o:aB}{w':World}(h:dX cfg D m C o w){x:aD}{id:Nat}(hd:D id)(ho:(dQ C o id).isSome)(hl:l.a0=(m id).a0)
 (hlv:∀j,D j->oQ (get C o j)->(m j).a0≠(m id).a0) (hw:∀k,k≠(m id).a0->w'.heap[k]? = w.heap[k]?) (hsz:w.heap.size<=w'.heap.size) (hx:cU D m l x w'.heap[l.a0]?)
 (hos:w'.os=w.os) (ht:w'.tape=w.tape) (hu:w'.output=w.output) :
 dw cfg C D m o w (xD D (C.lo+o.n)) (AT m (C.lo+o.n) l) (o.b0 x) w':=by
 have h':dX cfg D m C o w':=h.d0 λj hj hlj=>hw _ (hlv j hj hlj);refine⟨h'.i0 (λj hj hlj=>by rw[hl];exact hlv j hj hlj) hx,λi hi=>.inl hi,λi hi=>?_,?_,by simp[aB.b0],hos,ht,hu,hsz,λk _ hn=>hw k (λe=>hn id hd ho e.symm),rfl,?_⟩
 . have:=h.lt i hi;exact qE (by omega)
 . rintro i (hi|rfl)
   . exact .inl hi
   . exact .inr (Nat.le_refl _)
 . rintro i (hi|rfl) hn
   . exact absurd hi hn
   . rw[fJ];exact .inr ⟨id,hd,ho,hl.symm⟩
section
variable{P:Program}{T:fm}(hT:fH P T){cfg:cL}{C:bg}{D:Nat->Prop}{m:Nat->bv}{o:aB}{w:World}(hi:dX cfg D m C o w)
include hT hi
omit hT in
theorem kE{cs:List AV}(hx:dh D m x)(h:jN C o size n x=some cs):(Builtin.firstCells size n (aj m x)).run P w=.ok (ap m cs).toArray w/\fM D m cs:=by
 cases x<;>simp only[jN,reduceCtorEq,aA,Option.some.injEq]at h
 . rename_i s;obtain⟨hn,rfl⟩:=h;refine⟨?_,df.2 (λv hm=>by obtain⟨b,_,rfl⟩:=List.mem_map.1 hm;exact bM (by simp[jx,aC]))⟩;simp only[aj,Builtin.firstCells,Sem.run_pure];congr 1
   apply Array.toList_inj.1;simp[ByteArray.data_extract,d_,jx,aj,Function.comp_def]
 . rename_i id off len c;have hd:D id:=(hx (id,fi len c) (by simp[aC])).1;obtain⟨hn,h⟩:=h;simp only[mA,ag]at h;obtain⟨cs0,hc0,h⟩:=h;obtain⟨h1,h2⟩:=hi.f0 hd hc0 h P;exact⟨by simpa [aj,Builtin.firstCells]using h1,h2⟩
 . obtain⟨hn,rfl⟩:=h;exact⟨by simp[aj,Builtin.firstCells,ap],fQ⟩
omit hT hi in
theorem rO(h:pU x=some n):(Builtin.lenOf (aj m x)).run P w=.ok n w:=by
 cases x<;>simp only[pU,reduceCtorEq,Option.some.injEq]at h<;>subst h<;>simp[aj,Builtin.lenOf]<;>rfl
omit hT hi in
theorem E6(z:Array Value)(n:Nat):(Builtin.zeroCells z n).size=n*z.size:=by simp[Builtin.zeroCells]
omit hT hi in
theorem ze{cs:List AV}(h:jN C o size n x=some cs)(hs:∀s,x=.d s->size=1):cs.length=n*size:=by
 cases x<;>simp only[jN,reduceCtorEq,aA,Option.some.injEq,bx,cQ]at h
 . rename_i s;obtain⟨hn,rfl⟩:=h;rw[hs s rfl];simp;omega
 . obtain⟨hn,h⟩:=h;simp only[mA,ag]at h;obtain⟨cs0,hc0,h⟩:=h;exact tX h
 . obtain⟨rfl,rfl⟩:=h;simp
omit hT hi in
theorem CL{c:Nat}{k:Nat}(hk:k<=l.c0):dh (xD D n) (AT m n l) (.c n 0 k (.a 0)):=λi hm=>by
 simp only[aC,List.mem_singleton,fi]at hm;subst hm;exact⟨tj,by simp only[fJ];omega⟩
theorem qO{ts:Array TypeId}{ty:TypeId}{old new:List AV}{z:AV}{t u:TypeId}{base:Option Addr}{inf:TypeInfo}
 (hts:ts[0]? = some t) (htu:ts[1]? = some u) (he:T.a0 t=some (.slice elem)) (hu:o6 T u) (hinf:T.b0 elem=some inf) (hby:inf.bytes<=100000) (hz:lA T elem=some z) (hsz:gT T elem=some size) (hzl:(bU z).length=size) (h0:0<size)
 (hs:aj m s=.slice base sl sc) (hx:pU x=some n) (hn:¬sl+n<=sc) (hlim:sl+n<=1000000)
 (hold:(Builtin.firstCells size sl (aj m s)).run P w.drew=.ok (ap m old).toArray w.drew) (hnew:(Builtin.firstCells size n (aj m x)).run P w.drew=.ok (ap m new).toArray w.drew)
 (hoo:fM D m old) (hon:fM D m new) (hol:old.length=sl*size) (hnl:new.length=n*size) :
 ∃D' m' w',(Builtin.append_ ts ty #[aj m s,aj m x]).run P w=.ok (aj m' (oC C o size (sl+n) (old++new)).1) w'/\dh D' m' (oC C o size (sl+n) (old++new)).1/\dw cfg C D m o w D' m' (oC C o size (sl+n) (old++new)).2 w':=by
 have hcap:=Dq w (sl+n) sc elem (by omega);obtain⟨d,hd,hdi⟩:∃d,T.a0 u=some d/\∀k,d≠.int k:=by
  unfold o6 at hu;split at hu
  . cases hu
  . rename_i d hne hd;exact⟨d,hd,λk e=>hne k e⟩
  . cases hu
 obtain⟨hz1,hz2⟩:=mc hT (m:=m) hz w.drew;have hok:fM D m (old++new):=ex.2 ⟨hoo,hon⟩;have hrest:(Builtin.zeroCells (ap m (bU z)).toArray (grownCap w (sl+n) sc elem-(sl+n))).size=(grownCap w (sl+n) sc elem-(sl+n))*size:=by
  rw[E6];simp[b7,hzl]
 have hsize:((ap m old).toArray++(ap m new).toArray++Builtin.zeroCells (ap m (bU z)).toArray (grownCap w (sl+n) sc elem-(sl+n))).size=grownCap w (sl+n) sc elem*size:=by
  simp only[Array.size_append,hrest,List.size_toArray,b7,hol,hnl];rw[<-Nat.add_mul,<-Nat.add_mul];congr 1;omega
 have hext:=dw.j0 hi (.a (old++new) true (some size)) ⟨w.heap.size,0,grownCap w (sl+n) sc elem⟩ (.cells ((ap m old).toArray++(ap m new).toArray++Builtin.zeroCells (ap m (bU z)).toArray (grownCap w (sl+n) sc elem-(sl+n))) elem) (w0:=w.drew) rfl rfl rfl rfl rfl
  ⟨_,elem,(0,0),rfl,⟨(λi v hv=>by
   rw[Nat.zero_add,Array.getElem?_append,if_pos (by
    have:=(List.getElem?_eq_some_iff.1 hv).1;simpa [b7]using this)]
   have:((ap m old).toArray++(ap m new).toArray)=(ap m (old++new)).toArray:=by rw[mF];simp
   rw[this];simp[gi,hv]),hok,(λ_=>rfl),(λs hs=>by cases hs;exact⟨h0,rfl,hsize⟩)⟩⟩
 refine⟨_,_,_,?_,CL (c:=0) (by simpa using hcap),hext⟩;have hnc:¬(Builtin.nextslicecap (sl+n) sc*inf.bytes > 2^48):=by
  have h1:=Fy (need:=sl+n) (cap:=sc) (by omega) hlim;have h2:Builtin.nextslicecap (sl+n) sc*inf.bytes<=20000000*100000:=Nat.mul_le_mul h1 hby
  omega
 have hmax:¬(((sl+n:Nat):Int) > IntKind.i64.max):=by
  simp only[IntKind.max,IntKind.bits,IntKind.signed,if_true];omega
 rw[hs]at hold ⊢;have ha0:(#[Value.slice base sl sc,aj m x]:Array Value)[0]? = some (.slice base sl sc):=rfl;have ha1:(#[Value.slice base sl sc,aj m x]:Array Value)[1]? = some (aj m x):=rfl;have hq:(Question.appendCap (sl+n) sc elem).cut (w.tape w.drawn (.appendCap (sl+n) sc elem))=grownCap w (sl+n) sc elem:=rfl;have hdr:({ w with drawn:=w.drawn+1 }:World)=w.drew:=rfl;have hrd:=a_ hT hd w;clear hd;cases d
 case int k=>exact absurd rfl (hdi k)
 all_goals
  simp only[Builtin.append_,hts,htu,ha0,ha1,Sem.run_bind,a_ hT he w,Result.andThen_ok,ep hT hsz w,hrd,Sem.run_pure,Bool.false_eq_true,if_false,rO hx,hn,pg hT hinf w,hmax,false_and,hnc,run_choose,Question.forced,hq,hdr,pg hT hinf w.drew,run_askRoom,hold,Bool.not_false,if_true,hnew,hz1,fV,newRow,run_newObj];simp only[oC,aj,iR,aB.a0,fJ,Nat.sub_zero,Nat.add_zero];rfl
theorem pu{ts:Array TypeId}{ty:TypeId}{new:List AV}{t u:TypeId}{base:Option Addr}{w':World}
 (hts:ts[0]? = some t) (htu:ts[1]? = some u) (he:T.a0 t=some (.slice elem)) (hu:o6 T u) (hsz:gT T elem=some size)
 (hs:aj m s=.slice base sl sc) (hx:pU x=some n) (hn:sl+n<=sc)
 (hnew:(Builtin.firstCells size n (aj m x)).run P w=.ok (ap m new).toArray w)
 (hst:∀a,base=some a->(storeCells (a.add (sl*size)) (ap m new) 0).run P w=.ok () w') (hst':base=none->w'=w) :
 (Builtin.append_ ts ty #[aj m s,aj m x]).run P w=.ok (.slice base (sl+n) sc) w':=by
 obtain⟨d,hd,hdi⟩:∃d,T.a0 u=some d/\∀k,d≠.int k:=by
  unfold o6 at hu;split at hu
  . cases hu
  . rename_i d hne hd;exact⟨d,hd,λk e=>hne k e⟩
  . cases hu
 rw[hs];have ha0:(#[Value.slice base sl sc,aj m x]:Array Value)[0]? = some (.slice base sl sc):=rfl;have ha1:(#[Value.slice base sl sc,aj m x]:Array Value)[1]? = some (aj m x):=rfl;have hrd:=a_ hT hd w;clear hd;cases d
 case int k=>exact absurd rfl (hdi k)
 all_goals
  simp only[Builtin.append_,hts,htu,ha0,ha1,Sem.run_bind,a_ hT he w,Result.andThen_ok,ep hT hsz w,hrd,Sem.run_pure,Bool.false_eq_true,if_false,rO hx,hn,if_true,Bool.not_false,hnew];cases base with
  | none=>simp only[Sem.run_pure];rw[hst' rfl]
  | some a=>simp only[Sem.run_bind,hst a rfl,Result.andThen_ok,Sem.run_pure]
omit hT hi in
theorem vP(h:pU s=some sl)(hs:lW s):s=.f/\sl=0\/∃id off c,s=.c id off sl c:=by
 cases s<;>simp[lW]at hs
 . simp only[pU,Option.some.injEq]at h;subst h;exact .inr ⟨_,_,_,rfl⟩
 . simp only[pU,Option.some.injEq]at h;exact .inl ⟨rfl,h.symm⟩
theorem IE{ts:Array TypeId}{ty t u:TypeId}(hts:ts[0]? = some t)(htu:ts[1]? = some u)(hs:dh D m s)(hx:dh D m x)(h:pt T C o t u s x=some r) :
 ∃D' m' w',(Builtin.append_ ts ty #[aj m s,aj m x]).run P w=.ok (aj m' r.1) w'/\dh D' m' r.1/\dw cfg C D m o w D' m' r.2 w':=by
 simp only[pt,ag,aA,Bool.and_eq_true]at h;obtain⟨elem,he,⟨⟨hni,hsm⟩,hsl⟩,size,hsz,z,hz,n,hn,sl,hl,h⟩:=h;have heu:=fw he;obtain⟨inf,hinf,hby⟩:=xO hT hsm;have hslc:=vP hl hsl;by_cases hn0:n=0
 . rw[gm hn0,cond_true,aA,Option.some.injEq]at h;obtain⟨hfit,rfl⟩:=h;subst hn0;have hfc:(Builtin.firstCells size 0 (aj m x)).run P w=.ok (ap m []).toArray w:=by
    cases x<;>simp[pU]at hn<;>simp[aj,Builtin.firstCells,ap,loadCells,loadCellsFrom]
   refine⟨D,m,w,?_,hs,dw.e0 hi⟩;rcases hslc with⟨rfl,rfl⟩|⟨id,off,c,rfl⟩
   . have:=pu (ty:=ty) (sc:=0) (w':=w) hT hi hts htu heu hni hsz (s:=.f) (base:=none) (sl:=0) rfl hn (Nat.le_refl _) hfc (λa e=>by cases e) (λ_=>rfl);simpa [aj]using this
   . have hroom:sl<=iR (m id) c:=by
      cases c with
      | b c=>exact bx.1 hfit
      | a k=>
        have:=(hs (id,sl+k) (by simp[aC,fi])).2;simp only[iR]at this ⊢;omega
     have:=pu (ty:=ty) (w':=w) hT hi hts htu heu hni hsz (s:=.c id off sl c) rfl hn hroom hfc (λa e=>by simp[ap,storeCells]) (λe=>by cases e);simpa [aj]using this
 . rw[ic hn0,cond_false,aA]at h;simp only[Bool.and_eq_true,I9,bx,aU,cQ,ag,aA]at h;obtain⟨⟨⟨⟨⟨hlim,h0⟩,hs1⟩,hzl⟩,hstr⟩,new,hnew,hone,h⟩:=h;obtain⟨hfr,hfo⟩:=kE (P:=P) hi hx hnew;have hid:dX cfg D m C o w.drew:=hi.d0 λ_ _ _=>rfl;obtain⟨hfr',_⟩:=kE (P:=P) hid hx hnew;have hnl:=ze hnew (λs e=>by subst e;exact cQ.1 hstr);rcases hslc with⟨rfl,rfl⟩|⟨id,off,c,rfl⟩
   . simp only[jt,Option.some.injEq]at h;subst h;have:=qO (ty:=ty) (old:=[]) (base:=none) (sc:=0) hT hi hts htu heu hni hinf hby hz hsz hzl h0 (s:=.f) (sl:=0) rfl hn (by omega) (by omega) (by simp[aj,Builtin.firstCells,ap]) hfr' fQ hfo (by simp) hnl;simpa using this
   . have hd:D id:=(hs (id,fi sl c) (by simp[aC])).1;have hneed:=(hs (id,fi sl c) (by simp[aC])).2;cases c with
     | b c=>
       simp only[jt,appendCap,lB]at h;by_cases hcap:sl+n<=c
       . rw[bx.2 hcap,cond_true,ag]at h;obtain⟨o',hw,h⟩:=h;simp only[Option.some.injEq]at h;subst h;obtain⟨w',hw1,hw2⟩:=np (P:=P) hi hd hfo hone hw;have:=pu (ty:=ty) (w':=w') hT hi hts htu heu hni hsz (s:=.c id off sl (.b c)) rfl hn (by simpa [iR]using hcap) hfr (λa e=>by
          cases e;rw[hJ,Nat.add_assoc];exact hw1) (λe=>by cases e)
         refine⟨D,m,w',?_,?_,hw2⟩
         . simpa [aj,iR]using this
         . intro i hm;simp only[aC,List.mem_singleton,fi]at hm;subst hm;exact⟨hd,Nat.zero_le _⟩
       . rw[jT hcap,cond_false,ag]at h;obtain⟨old,hold,h⟩:=h;simp only[Option.some.injEq]at h;subst h;have hof:jN C o size sl (.c id off sl (.b c))=some old:=by
          simp only[jN,aA,bx];exact⟨Nat.le_refl _,hold⟩
         obtain⟨hor,hoo⟩:=kE (P:=P) hid hs hof;exact qO (ty:=ty) hT hi hts htu heu hni hinf hby hz hsz hzl h0 rfl hn (by simpa [iR]using hcap) hlim hor hfr' hoo hfo (ze hof (λs e=>by cases e)) hnl
     | a k=>
       simp only[jt,appendCap,nB,aA,Bool.and_eq_true,cQ,ag]at h;obtain⟨⟨rfl,rfl⟩,y,hy,cs,hcs,h⟩:=h;simp only[Option.some.injEq]at h;subst h;simp only[fi,Nat.add_zero]at hneed;cases y<;>simp only[zl,reduceCtorEq]at hcs;rename_i cs' rw g;cases rw<;>cases g<;>simp only[reduceCtorEq,aA,Bool.and_eq_true,cQ,Option.some.injEq]at hcs;obtain⟨⟨rfl,hcl⟩,rfl⟩:=hcs;rename_i size;have hob:=hi.a0 id hd;rw[fI hy]at hob;obtain⟨c,e,fz,hb,hr⟩:=hob;obtain rfl:=hr.a0 rfl;obtain⟨_,hbase,hcsz⟩:=hr.d0 size rfl;have hk:=dw.n0 (w':=w) hi (x:=.b) hd hy rfl (Nat.le_refl _) (λ_ _=>rfl) trivial rfl rfl rfl;have hnx:(ea C o id .b).a0 C=C.lo+o.n:=by simp[aB.a0,vJ]
       by_cases hcap:sl+n<=(m id).c0
       . have hlen:sl*size+n*size<=(m id).c0*size:=by rw[<-Nat.add_mul];exact Nat.mul_le_mul_right _ hcap
         have hst:=run_storeCells_at P (m id).a0 (sl*size) e (ap m new) 0 c w hb (by rw[b7,hnl,hcsz];omega) (λv hvm=>by
          rw[d_]at hvm;obtain⟨q,hq,rfl⟩:=List.mem_map.1 hvm;exact tB (jj.1 hone q hq))
         have hap:=pu (ty:=ty) hT hi hts htu heu hni hsz (s:=.c id 0 sl (.a 0)) rfl hn (by simpa [iR]using hcap) hfr (λa e=>by
          cases e;rw[hJ,hbase,Nat.add_zero,Nat.zero_add];exact hst) (λe=>by cases e)
         have hg:dw cfg C D m (ea C o id .b) w (xD D (C.lo+(ea C o id .b).n)) (AT m (C.lo+(ea C o id .b).n) ⟨(m id).a0,0,(m id).c0⟩) ((ea C o id .b).b0 (.a (cs'++new) true (some size))) (w.setRow (m id).a0 (c.toList.take (sl*size+0)++ap m new++c.toList.drop (sl*size+0+(ap m new).length)).toArray):=by
          refine dw.q0 hk.b0 hd (by rw[ig qM,hy];rfl) rfl (λj hj hlj=>?_) (λk hk=>setRow_other _ _ _ _ hk) (Nat.le_of_eq (vK _ _ _).symm) ?_ rfl rfl rfl
          . rw[wZ hi.e0 (hi.lt id hd) (hi.lt j hj) (by rw[hy];rfl)]at hlj;by_cases ej:j=id
            . rw[if_pos ej]at hlj;cases hlj
            . rw[if_neg ej]at hlj;exact hi.inj j id hj hd ej hlj (by rw[fI hy];rfl)
          . refine⟨_,e,(0,0),setRow_heap w _ c _ e _ hb,⟨λi v hv=>?_,ex.2 ⟨hr.b0,hfo⟩,λ_=>rfl,λs hs=>?_⟩⟩
            . simp only[Nat.add_zero,Nat.zero_add,List.getElem?_toArray];rw[List.append_assoc,List.getElem?_append,List.length_take,Array.length_toList,Nat.min_eq_left (by omega)];rw[List.getElem?_append,hcl]at hv;by_cases hi1:i<sl*size
              . rw[if_pos hi1]at hv ⊢;have:=hr.c0 i v hv;rw[hbase,Nat.zero_add]at this;rw[List.getElem?_take_of_lt hi1,Array.getElem?_toList];exact this
              . rw[if_neg hi1]at hv ⊢;have:=(List.getElem?_eq_some_iff.1 hv).1;rw[List.getElem?_append,if_pos (by rw[b7];exact this),gi,hv];rfl
            . cases hs;refine⟨h0,rfl,?_⟩;simp only[Nat.add_zero,List.size_toArray,List.length_append,List.length_take,List.length_drop,Array.length_toList,b7,hnl];rw[hcsz];omega
         refine⟨_,_,_,?_,CL (c:=0) (n:=(ea C o id .b).a0 C) (l:=⟨(m id).a0,0,(m id).c0⟩) (m:=m) (D:=D) hcap,hk.c0 hg⟩;rw[hap];simp only[oC,aj,iR,aB.a0,fJ,Nat.sub_zero,Nat.add_zero,hbase]
       . have hof:jN C o size sl (.c id 0 sl (.a 0))=some cs':=by
          simp only[jN,aA,bx];refine⟨Nat.le_refl _,?_⟩;simp only[mA,fI hy,cellsOf,ob,jW,List.drop_zero];rw[<-hcl,List.take_length,gm rfl];rfl
         obtain⟨hor,hoo⟩:=kE (P:=P) hid hs hof;have hki:dX cfg D m C (ea C o id .b) w:=hk.b0;obtain⟨D',m',w',h1,h2,h3⟩:=qO (ty:=ty) hT hki hts htu heu hni hinf hby hz hsz hzl h0 (s:=.c id 0 sl (.a 0)) rfl hn (by simpa [iR]using hcap) hlim hor hfr' hoo hfo (by omega) hnl;exact⟨D',m',w',h1,h2,hk.c0 h3⟩
end
section
variable{P:Program}{T:fm}(hT:fH P T){cfg:cL}{C:bg}{D:Nat->Prop}{m:Nat->bv}{o:aB}{w:World}(hi:dX cfg D m C o w)
include hT hi
theorem Nv{ts:Array TypeId}{ty t:TypeId}{d:AV}(hts:ts[0]? = some t)(hd:dh D m d)(hs:dh D m s)(h:AF T C o t d s=some r) :
 ∃D' m' w',(Builtin.copy_ ts ty #[aj m d,aj m s]).run P w=.ok (aj m' r.1) w'/\dh D' m' r.1/\dw cfg C D m o w D' m' r.2 w':=by
 simp only[AF,ag,aA]at h;obtain⟨elem,he,hsl,size,hsz,dl,hdl,sl,hsl',cs,hcs,h⟩:=h;obtain⟨hfr,hfo⟩:=kE (P:=P) hi hs hcs;have hmin:L9 sl dl=Nat.min sl dl:=by
  unfold L9;by_cases hle:sl<=dl
  . rw[bx.2 hle,cond_true];exact(Nat.min_eq_left hle).symm
  . rw[jT hle,cond_false];exact(Nat.min_eq_right (by omega)).symm
 have ha1:∀x y:Value,(#[x,y]:Array Value)[1]? = some y:=λ_ _=>rfl;have ha0:∀x y:Value,(#[x,y]:Array Value)[0]? = some x:=λ_ _=>rfl;rcases vP hdl hsl with⟨rfl,rfl⟩|⟨id,off,c,rfl⟩
 . simp only[t_,Option.some.injEq]at h;subst h;refine⟨D,m,w,?_,by rw[gE];exact wJ,dw.e0 hi⟩;rw[hmin]at hfr ⊢;simp only[Builtin.copy_,hts,ha0,ha1,Sem.run_bind,a_ hT (fw he) w,Result.andThen_ok,aj,rO hsl',ep hT hsz w,hfr,Sem.run_pure,gE,Go.goInt]
 . have hdd:D id:=(hd (id,fi dl c) (by simp[aC])).1;simp only[t_,aA,ag,Option.some.injEq]at h;obtain⟨hone,o',hw,rfl⟩:=h;obtain⟨w',hw1,hw2⟩:=np (P:=P) hi hdd hfo hone hw;refine⟨D,m,w',?_,by rw[gE];exact wJ,hw2⟩;rw[hmin]at hfr ⊢;simp only[Builtin.copy_,hts,ha0,ha1,Sem.run_bind,a_ hT (fw he) w,Result.andThen_ok,aj,rO hsl',ep hT hsz w,hfr,hw1,Sem.run_pure,gE,Go.goInt]
omit hi in
theorem RE{ts:Array TypeId}{ty t:TypeId}{v:AV}(hts:ts[0]? = some t)(h:IX x (T.a0 t)=some v):(Builtin.len_ ts ty #[aj m x]).run P w=.ok (aj m v) w/\aC v=[]:=by
 have ha0:∀x:Value,(#[x]:Array Value)[0]? = some x:=λ_=>rfl;cases hu:T.a0 t with
 | none=>simp[hu,IX]at h
 | some d=>
   cases d<;>simp only[hu,IX,reduceCtorEq]at h
   . cases x<;>simp only[reduceCtorEq,Option.some.injEq]at h;subst h;rw[gE];refine⟨?_,by simp[aC]⟩;simp only[Builtin.len_,hts,ha0,Sem.run_bind,a_ hT hu w,Result.andThen_ok,aj,Sem.run_pure,Go.goInt];rfl
   . cases x<;>simp only[reduceCtorEq,Option.some.injEq]at h<;>subst h<;>rw[gE]<;>refine⟨?_,by simp[aC]⟩<;>
      simp only[Builtin.len_,hts,ha0,Sem.run_bind,a_ hT hu w,Result.andThen_ok,aj,Sem.run_pure,Go.goInt]<;>rfl
   . simp only[Option.some.injEq]at h;subst h;rw[gE];refine⟨?_,by simp[aC]⟩;simp only[Builtin.len_,hts,ha0,Sem.run_bind,a_ hT hu w,Result.andThen_ok,aj,Sem.run_pure,Go.goInt]
omit hi in
theorem RO{ts:Array TypeId}{ty t:TypeId}{v:AV}(hts:ts[0]? = some t)(h:H6 x (T.a0 t)=some v):(Builtin.cap_ ts ty #[aj m x]).run P w=.ok (aj m v) w/\aC v=[]:=by
 have ha0:∀x:Value,(#[x]:Array Value)[0]? = some x:=λ_=>rfl;cases hu:T.a0 t with
 | none=>simp[hu,H6]at h
 | some d=>
   rw[hu]at h;cases d<;>simp only[H6,reduceCtorEq]at h;cases x<;>(try simp only[reduceCtorEq,Option.some.injEq]at h)
   . rename_i id off len c;cases c<;>simp only[reduceCtorEq,Option.some.injEq]at h;subst h;rw[gE];refine⟨?_,by simp[aC]⟩;simp only[Builtin.cap_,hts,ha0,Sem.run_bind,a_ hT hu w,Result.andThen_ok,aj,Sem.run_pure,Go.goInt,iR]
   . subst h;rw[gE];refine⟨?_,by simp[aC]⟩;simp only[Builtin.cap_,hts,ha0,Sem.run_bind,a_ hT hu w,Result.andThen_ok,aj,Sem.run_pure,Go.goInt]
omit hT hi in
theorem CV{k:IntKind}:∀{vs:List AV} {acc:Int} {v:AV},pc gY k acc vs=some v->((ap m vs).foldlM Builtin.min2 (.int k acc)).run P w=.ok (aj m v) w/\aC v=[]
 | [],acc,v,h=>by cases h;simp[ap,aj,aC]
 | x::vs,acc,v,h=>by
   cases x<;>simp only[pc,reduceCtorEq]at h;rename_i k' y;obtain⟨h1,h2⟩:=CV h;refine⟨?_,h2⟩;have e:gY acc y=if y<acc then y else acc:=by
    unfold gY;rw[ek];by_cases hle:acc<=y
    . rw[decide_eq_true hle,cond_true,if_neg (by omega)]
    . rw[decide_eq_false hle,cond_false,if_pos (by omega)]
   rw[e]at h1;simpa [ap,aj,Builtin.min2]using h1
omit hT hi in
theorem DH{k:IntKind}:∀{vs:List AV} {acc:Int} {v:AV},pc kh k acc vs=some v->((ap m vs).foldlM Builtin.max2 (.int k acc)).run P w=.ok (aj m v) w/\aC v=[]
 | [],acc,v,h=>by cases h;simp[ap,aj,aC]
 | x::vs,acc,v,h=>by
   cases x<;>simp only[pc,reduceCtorEq]at h;rename_i k' y;obtain⟨h1,h2⟩:=DH h;refine⟨?_,h2⟩;have e:kh acc y=if y > acc then y else acc:=by
    unfold kh;rw[ek];by_cases hle:y<=acc
    . rw[decide_eq_true hle,cond_true,if_neg (by omega)]
    . rw[decide_eq_false hle,cond_false,if_pos (by omega)]
   rw[e]at h1;simpa [ap,aj,Builtin.max2]using h1
theorem Fv{b:Builtin}{ts:Array TypeId}{ty:TypeId}{consts:Array Bool}{vs:List AV}(hv:fM D m vs)(h:gb T C o b ts.toList vs=some r):gO P cfg C D m o w (Go.builtin b ts ty consts (ap m vs).toArray) r:=by
 have ht:∀i,ts.toList[i]? = ts[i]? := λi=>Array.getElem?_toList;unfold gb at h;cases b<;>(try simp only[reduceCtorEq]at h)
 case append=>
  simp only[ag,ht]at h;obtain⟨t,h0,u,h1,h⟩:=h
  match vs,h,hv with
  | [s,x],h,hv=>
    have hs:=(ct.1 hv).1;have hx:=(ct.1 (ct.1 hv).2).1;obtain⟨D',m',w',hr,ho,he⟩:=IE (ty:=ty) hT hi h0 h1 hs hx h;exact⟨D',m',w',_,by simp only[Go.builtin,Sem.run_bind,ap];rw[hr];rfl,.inl rfl,ho,he⟩
  | [],h,_=>cases h
  | [_],h,_=>cases h
  | _::_::_::_,h,_=>cases h
 case cap=>
  simp only[bK,ag,ht]at h;obtain⟨⟨t,h0,h⟩,ho⟩:=h
  match vs,h with
  | [x],h=>
    obtain⟨h1,h2⟩:=RO (P:=P) (m:=m) (w:=w) (ty:=ty) hT h0 h;exact gO.a0 hi ho (by simp only[Go.builtin,Sem.run_bind,ap];rw[h1];rfl) (bM h2)
  | [],h=>cases h
  | _::_::_,h=>cases h
 case copy=>
  simp only[ag,ht]at h;obtain⟨t,h0,h⟩:=h
  match vs,h,hv with
  | [s,x],h,hv=>
    have hs:=(ct.1 hv).1;have hx:=(ct.1 (ct.1 hv).2).1;obtain⟨D',m',w',hr,ho,he⟩:=Nv (ty:=ty) hT hi h0 hs hx h;exact⟨D',m',w',_,by simp only[Go.builtin,Sem.run_bind,ap];rw[hr];rfl,.inl rfl,ho,he⟩
  | [],h,_=>cases h
  | [_],h,_=>cases h
  | _::_::_::_,h,_=>cases h
 case len=>
  simp only[bK,ag,ht]at h;obtain⟨⟨t,h0,h⟩,ho⟩:=h
  match vs,h with
  | [x],h=>
    obtain⟨h1,h2⟩:=RE (P:=P) (m:=m) (w:=w) (ty:=ty) hT h0 h;exact gO.a0 hi ho (by simp only[Go.builtin,Sem.run_bind,ap];rw[h1];rfl) (bM h2)
  | [],h=>cases h
  | _::_::_,h=>cases h
 case max=>
  simp only[bK]at h;obtain⟨h,ho⟩:=h
  match vs,h with
  | .a k x::rest,h=>
    obtain⟨h1,h2⟩:=DH (P:=P) (m:=m) (w:=w) h;refine gO.a0 hi ho ?_ (bM h2);simp only[Go.builtin,Builtin.max_,Sem.run_bind,ap,aj];rw[h1];rfl
  | [],h=>cases h
  | .b _::_,h=>cases h
  | .d _::_,h=>cases h
  | .g ..::_,h=>cases h
  | .n::_,h=>cases h
  | .c ..::_,h=>cases h
  | .f::_,h=>cases h
  | .j ..::_,h=>cases h
  | .o::_,h=>cases h
  | .k ..::_,h=>cases h
  | .l::_,h=>cases h
  | .h _::_,h=>cases h
  | .e _::_,h=>cases h
  | .q _::_,h=>cases h
  | .p::_,h=>cases h
 case min=>
  simp only[bK]at h;obtain⟨h,ho⟩:=h
  match vs,h with
  | .a k x::rest,h=>
    obtain⟨h1,h2⟩:=CV (P:=P) (m:=m) (w:=w) h;refine gO.a0 hi ho ?_ (bM h2);simp only[Go.builtin,Builtin.min_,Sem.run_bind,ap,aj];rw[h1];rfl
  | [],h=>cases h
  | .b _::_,h=>cases h
  | .d _::_,h=>cases h
  | .g ..::_,h=>cases h
  | .n::_,h=>cases h
  | .c ..::_,h=>cases h
  | .f::_,h=>cases h
  | .j ..::_,h=>cases h
  | .o::_,h=>cases h
  | .k ..::_,h=>cases h
  | .l::_,h=>cases h
  | .h _::_,h=>cases h
  | .e _::_,h=>cases h
  | .q _::_,h=>cases h
  | .p::_,h=>cases h
end
def cN:gD->List Nat
 | .b ids=>ids
 | _=>[]
def jV(P:Program)(f:FuncId)(args:Array Value)(w:World)(R:Value->World->Prop):Prop:=
 ((callFunc f args).run P w=.ok (.enter f args) w/\Calls P f args w λe w'=>∃v,e=.returned v/\R v w')\/∃v w',(callFunc f args).run P w=.ok (.value v) w'/\R v w'
theorem jV.a0{P:Program}{f:FuncId}{args:Array Value}{R R':Value->World->Prop}(h:jV P f args w R)(hr:∀v w',R v w'->R' v w'):jV P f args w R':=
 h.elim (λ⟨a,b⟩=>.inl ⟨a,b.mono λ_ _ ⟨v,e,r⟩=>⟨v,e,hr _ _ r⟩⟩) λ⟨v,w',a,b⟩=>.inr ⟨v,w',a,hr _ _ b⟩
def FR(x:Option Nat):Fence:={ Fence.wide with round:=x }
theorem GA{x:Option Nat}{P:Program}{f:FuncId}{args:Array Value}{R:Ending->World->Prop}(h:Calls P f args w R):CallsIn (FR x) n P f args w R:=
 (callsIn_wide.2 h:CallsIn Fence.wide n P f args w R)
def Qd(P:Program)(l:Nat)(args:Array Value)(w:World)(R:Value->World->Prop):Prop:=
 ∃fn tmps assign body,(Instr.yield l args).run P w=.ok (.round l fn tmps assign body) w/\RoundIn Fence.wide 0 P l fn tmps assign body w λe w'=>∃v,e=.returned v/\R v w'
def m6(D:Nat->Prop)(w:World)(D':Nat->Prop)(m':Nat->bv)(w':World):Prop:=
 (∀k,k<w.heap.size->w'.heap[k]? = w.heap[k]?)/\∀i,D' i->¬D i->w.heap.size<=(m' i).a0
def jH(P:Program)(cfg:cL)(mu:Prop)(call:bg->FuncId->List AV->aB->Option (AV×aB)):Prop:=
 ∀C f args o r,call C f args o=some r->∀D m w,dX cfg D m C o w->fM D m args->
  jV P f (ap m args).toArray w λV w'=>∃D' m',V=aj m' r.1/\dh D' m' r.1/\dw cfg C D m o w D' m' r.2 w'/\(mu->cI args (cfg.b0 f)=[]->m6 D w D' m' w')
def CN(P:Program)(cfg:cL)(mu:Prop)(rnd:bg->Nat->List AV->aB->Option (AV×aB)):Prop:=
 ∀C id args o r,rnd C id args o=some r->(mu->False)/\∀D m w,dX cfg D m C o w->D id->fM D m args->
  Qd P (m id).a0 (ap m args).toArray w λV w'=>∃D' m',V=aj m' r.1/\dh D' m' r.1/\dw cfg C D m o w D' m' r.2 w'
theorem wF{P:Program}{cfg:cL}{mu:Prop}:CN P cfg mu tP:=λC id args o r h=>by cases h
section
variable{P:Program}{T:fm}(hT:fH P T){cfg:cL}{C:bg}{D:Nat->Prop}{m:Nat->bv}{o:aB}{w:World}(hi:dX cfg D m C o w){ρ:Operand->Option AV}
include hT hi
theorem SY{ev:Operand->Value}(hρ:mE D m ρ ev){oo:Oper}(h:Eo T C ρ o oo.op=some r):vy P cfg C D m o w ev oo r:=by
 unfold Eo at h;cases ho:oo.op<;>rw[ho]at h<;>simp only[gW]at h
 case move=>exact F_ hi hρ (.inl ho) h
 case assign=>exact F_ hi hρ (.inr ho) h
 case pick=>exact OL hi hρ ho h
 case alloc=>exact Mu hT hi hρ ho h
 case box=>exact R8 hi hρ ho h
 case build=>exact KO hT hi hρ ho h
 case buildSlice=>exact zD hT hi hρ ho h
 case insert=>exact DM hT hi hρ (.inl ho) h
 case load=>exact Ov hT hi hρ ho h
 case store=>exact Mg hT hi hρ ho h
 case nilCheck=>exact C8 hi hρ ho h
 case binOp=>exact Q7 hT hi hρ ho h
 case unOp=>exact VB hi hρ ho h
 case convert=>exact E4 hT hi hρ ho h
 case makeInterface=>exact Kk hT hi hρ ho h
 case makeFunc=>exact OX hi hρ ho h
 case makeMap=>exact E3 hi hρ ho h
 case makeSlice=>exact B2 hT hi hρ ho h
 case slice=>exact K_ hT hi hρ ho h
 case fieldAddr=>exact BQ hT hi hρ ho h
 case field=>exact Mo hT hi hρ ho h
 case indexAddr=>exact Ba hT hi hρ ho h
 case index=>exact LK hT hi hρ ho h
 case lookup=>exact Ic hT hi hρ ho h
 case mapUpdate=>exact DM hT hi hρ (.inr ho) h
 case range=>exact MF hT hi hρ ho h
 case next=>exact Nj hi hρ ho h
 case extract=>exact E0 hi hρ ho h
 all_goals cases h
theorem rH{mu:Prop}{x:Option Nat}{a:Act}(hρ:mE D m ρ a.eval){call:bg->FuncId->List AV->aB->Option (AV×aB)}{rnd:bg->Nat->List AV->aB->Option (AV×aB)}(hc:jH P cfg mu call)(hrd:CN P cfg mu rnd)
 {oo:Oper} {r:AV×aB} (h:gQ T call rnd C ρ o oo.op=some r)
 {next:Act->World->Prop} {Q:Exit->Act->World->Prop} (hn:∀D' m' w',dh D' m' r.1->dw cfg C D m o w D' m' r.2 w'->(mu->bY oo.op=.a->cN (cX cfg ρ oo.op)=[]->m6 D w D' m' w')->next (a.put oo.dst (aj m' r.1)) w'):oo.wpIn (FR x) 0 P a w next Q:=by
 have hnd:∀c,oo.op≠.defer c:=λc e=>by rw[e]at h;cases h
 have hsem:oo.semAt (FR x).round a.eval=execOp a.eval oo:=Oper.semAt_eq _ _ _ hnd;have hdep:∀k:Nat,(FR x).depth.isSome->1<=k:=λk hk=>by cases hk
 unfold Oper.wpIn;refine⟨λ_ _=>trivial,?_⟩;rw[hsem];have fin:bY oo.op≠.a->gO P cfg C D m o w (execOp a.eval oo) r->oo.uponIn (FR x) 0 P a next Q ((execOp a.eval oo).run P w):=by
  rintro hk ⟨D',m',w',nx,hr,hx,hv,he⟩;rw[hr];rcases hx with rfl|⟨rfl,hu⟩
  . exact hn D' m' w' hv he λ_ e=>absurd e hk
  . have:=hn D' m' w' hv he λ_ e=>absurd e hk;rw[hu,iX]at this;exact this
 unfold gQ at h;split at h
 . rename_i c hoc;unfold sQ at h;cases hcal:c.callee with
   | value f=>
     simp only[hcal,ag]at h;obtain⟨fv,hf,vs,hvs,h⟩:=h;obtain⟨h1,h2⟩:=hρ f _ hf;obtain⟨h3,h4⟩:=ku hρ hvs;cases fv<;>simp only[G_,reduceCtorEq]at h
     . rename_i fid first captured
       have hok:fM D m (first++vs++captured):=by
        have:fM D m first/\fM D m captured:=⟨λi hm=>h2 i (by simp[aC,hm]),λi hm=>h2 i (by simp[aC,hm])⟩
        exact ex.2 ⟨ex.2 ⟨this.1,h4⟩,this.2⟩
       have hcs:=hc C fid _ o r h D m w hi hok;have hargs:(ap m first).toArray++(ap m vs).toArray++(ap m captured).toArray=(ap m (first++vs++captured)).toArray:=by
        simp[mF]
       have hex:∀nx w',(callFunc fid (ap m (first++vs++captured)).toArray).run P w=.ok nx w'->(execOp a.eval oo).run P w=.ok nx w':=by
        intro nx w' hrun;simp only[execOp,hoc,resolve,hcal,h1,aj,Deferred.ofValue,h3,Sem.run_bind,Sem.run_pure,Result.andThen_ok,invoke];rw[hargs];exact hrun
       have hmu:∀D' m' w',(mu->cI (first++vs++captured) (cfg.b0 fid)=[]->m6 D w D' m' w')->mu->bY oo.op=.a->cN (cX cfg ρ oo.op)=[]->m6 D w D' m' w':=by
        intro D' m' w' hm hmu _ hf';refine hm hmu ?_;simp only[hoc,cX,hcal,vX,hf,hvs,GE]at hf';cases hna:cI (first++vs++captured) (cfg.b0 fid)with
        | nil=>rfl
        | cons x xs=>rw[hna]at hf';cases hf'
       rcases hcs with⟨hent,hcalls⟩|⟨v,w',hval,D',m',rfl,hv,he,hm⟩
       . rw[hex _ _ hent,Oper.uponIn_enter];refine⟨hdep _,CallsIn.mono (GA hcalls) ?_⟩;rintro e w' ⟨v,rfl,D',m',rfl,hv,he,hm⟩;exact hn D' m' w' hv he (hmu D' m' w' hm)
       . rw[hex _ _ hval,Oper.uponIn_value];exact hn D' m' w' hv he (hmu D' m' w' hm)
     . rename_i id;obtain⟨hmf,hrr⟩:=hrd C id vs o r h;obtain⟨fn,tmps,assign,body,hy,hR⟩:=hrr D m w hi (h2 _ (by simp[aC];rfl)).1 h4;have hex:∀nx w',(Instr.yield (m id).a0 (ap m vs).toArray).run P w=.ok nx w'->(execOp a.eval oo).run P w=.ok nx w':=by
        intro nx w' hrun;simp only[execOp,hoc,resolve,hcal,h1,aj,Deferred.ofValue,h3,Sem.run_bind,Sem.run_pure,Result.andThen_ok,invoke];simpa using hrun
       rw[hex _ _ hy,Oper.uponIn_round];refine⟨hdep _,RoundIn.mono (F:=FR x) hR ?_⟩;rintro e w' ⟨v,rfl,D',m',rfl,hv,he⟩;exact hn D' m' w' hv he λhm=>(hmf hm).elim
   | builtin b=>
     simp only[hcal,ag]at h;obtain⟨vs,hvs,h⟩:=h;obtain⟨h3,h4⟩:=ku hρ hvs;refine fin (by rw[hoc];simp only[bY,hcal,PB];cases b<;>simp[P4]) ?_;obtain⟨D',m',w',nx,hr,hx⟩:=Fv (ty:=oo.type) (consts:=c.args.map λ|.const _=>true|_=>false) hT hi h4 h;refine⟨D',m',w',nx,?_,hx⟩;simp only[execOp,hoc,resolve,hcal,h3,Sem.run_bind,Sem.run_pure,Result.andThen_ok,invoke];exact hr
   | invoke x n=>simp[hcal]at h
 . rename_i hne;refine fin (λe=>?_) (SY hT hi hρ h);cases hop:oo.op<;>rw[hop]at e<;>simp only[bY,reduceCtorEq]at e;exact hne _ hop
end
theorem If{D:Nat->Prop}{m:Nat->bv}{a:Act}(ht:TR D m st a){ops:Array Oper}{oo:Oper}:Region.wanted oo (yielded ops a.tmps)=eI ops st.ts oo.guard:=by
 unfold Region.wanted eI;cases oo.guard with
 | none=>rfl
 | some jw=>
   obtain⟨j,want⟩:=jw;simp only[yielded];cases hj:ops[j]? with
   | none=>simp
   | some op=>
     cases hd:op.dst with
     | none=>simp[hd,rn]
     | some t=>
       have hat:=ht.d0 t;simp only[Option.bind_some,hd,rn];cases hg:a.tmps[t]? with
       | none=>
         have:a.tmps.getD t undef=undef:=by
          grind
         rw[this]at hat;cases hv:st.ts.a0 t<;>rw[hv]at hat<;>simp[aj,undef]at hat<;>first|rfl|(subst hat;rfl)
       | some v=>
         have:a.tmps.getD t undef=v:=by simp[hg]
         rw[this]at hat;subst hat;cases hv:st.ts.a0 t with
         | i v=>simp only[aj,yS];cases v<;>simp[B0,ru]
         | _=>simp[aj,yS,ru]
theorem Ix{cfg:cL}{D:Nat->Prop}{m:Nat->bv}{a:Act}(hi:dX cfg D m C st.o w)(ht:TR D m st a):mE D m (fj cfg.G st.ts) a.eval:=λ_ _ h=>mM hi ht h
section
variable{P:Program}{T:fm}(hT:fH P T){cfg:cL}{C:bg}{mu:Prop}{call:bg->FuncId->List AV->aB->Option (AV×aB)}{rnd:bg->Nat->List AV->aB->Option (AV×aB)}(hc:jH P cfg mu call)(hrd:CN P cfg mu rnd)
include hT hc hrd
theorem FA{ops:Array Oper}{Q:Exit->Act->World->Prop}{x:Option Nat}:∀(l:List Oper) (k:Nat),ops.toList.drop k=l->∀{D:Nat->Prop} {m:Nat->bv} {st st':St} {a:Act} {w:World},dX cfg D m C st.o w->TR D m st a->CJ T cfg call rnd C ops l st=some st'->
 (∀D' m' a' w',TR D' m' st' a'->dw cfg C D m st.o w D' m' st'.o w'->Q .normal a' w')->wpOpsIn (FR x) 0 P ops Q (List.range' k l.length) a w
 | [],k,hl,D,m,st,st',a,w,hi,ht,h,hq=>by
   cases h;exact hq D m a w ht (dw.e0 hi)
 | oo::rest,k,hl,D,m,st,st',a,w,hi,ht,h,hq=>by
   have hk:ops[k]? = some oo:=by
    have:(ops.toList.drop k)[0]? = some oo:=by rw[hl];rfl
    rw[List.getElem?_drop]at this;simpa using this
   have hrest:ops.toList.drop (k+1)=rest:=by
    rw[<-List.drop_drop,hl];rfl
   simp only[CJ,ag]at h;obtain⟨st1,hs,h⟩:=h;simp only[List.length_cons,List.range'_succ,wpOpsIn,hk];rw[If ht];cases hw:eI ops st.ts oo.guard with
   | true=>
     rw[hw,cond_true,ag]at hs;obtain⟨r,hr,hp⟩:=hs;rw[if_pos rfl];refine rH hT hi (Ix hi ht) hc hrd hr λD' m' w' hv he _=>?_;obtain⟨ht',ho,_⟩:=(ht.g0 he.f0 he.a0).h0 hp hv;have hi':dX cfg D' m' C st1.o w':=by rw[ho];exact he.b0
     refine FA rest (k+1) hrest hi' ht' h λD2 m2 a2 w2 ht2 he2=>hq D2 m2 a2 w2 ht2 ?_;rw[ho]at he2;exact he.c0 he2
   | false=>
     rw[hw,cond_false]at hs;rw[if_neg (by simp)];refine⟨λ_ _=>trivial,?_⟩;obtain⟨ht',ho,_⟩:=ht.h0 hs iy;rw[iX]at ht';have hi':dX cfg D m C st1.o w:=by rw[ho];exact hi
     refine FA rest (k+1) hrest hi' ht' h λD2 m2 a2 w2 ht2 he2=>hq D2 m2 a2 w2 ht2 ?_;rw[ho]at he2;exact he2
end
end Go.Ev
