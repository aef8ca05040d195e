import Derived.RangeFuncRecord
import Derived.Test.YtoghlpcacfnjbaaGreatDoorP10
set_option linter.all false
set_option maxRecDepth 100000
set_option maxHeartbeats 4000000
namespace Go.Ev
open Go Go.RowKit
variable{D:Nat->Prop}{m:Nat->bv}{C:bg}{o:aB}{w:World}{fn:Func}{args:List AV}{f:FuncId}{c:Code}
def lH:AX->Exit
 | .a=>.normal
 | .b id=>.exit id
 | .c=>.ret
def y6(P:Program)(cfg:cL)(code:bg->Code->St->Option (AX×St)):Prop:=
 ∀C c st r,code C c st=some r->∀D m a w,dX cfg D m C st.o w->TR D m st a->∀Q:Exit->Act->World->Prop,
  (∀D' m' a' w',TR D' m' r.2 a'->dw cfg C D m st.o w D' m' r.2.o w'->Q (lH r.1) a' w')->c.wpIn (FR (wo m st.ro)) 0 P Q a w
def HL:aD->List (Nat×Nat)
 | .a cs _ _=>bw cs
 | .f es=>bw (es.map (·.1))++bw (es.map (·.2))
 | _=>[]
def yu:aD->Bool
 | .c _=>false
 | _=>true
structure qX(cfg:cL):Prop where
 a0:∀id,id<cfg.a0.n->yu (cfg.a0.at id)=true
 G:cfg.G<=cfg.a0.n
 b0:∀id,id<cfg.a0.n->∀i∈HL (cfg.a0.at id),i.1<cfg.a0.n
theorem cU.c0{D':Nat->Prop}{l:bv}{x:aD}{b:Option Obj}(h:cU D m l x b)(hl:yu x)(hi:∀i∈HL x,D i.1->D' i.1):cU D' m l x b:=by
 cases x with
 | b=>trivial
 | a cs rw g=>
   obtain⟨c,e,fz,hb,hc⟩:=h;exact⟨c,e,fz,hb,hc.c0,λi hm=>⟨hi i hm (hc.b0 i hm).1,(hc.b0 i hm).2⟩,hc.a0,hc.d0⟩
 | f es=>
   obtain⟨en,ck,hb,he,ho⟩:=h;refine⟨en,ck,hb,he,λe hm=>⟨λi hi'=>⟨hi i ?_ ((ho e hm).1 i hi').1,((ho e hm).1 i hi').2⟩,λi hi'=>⟨hi i ?_ ((ho e hm).2 i hi').1,((ho e hm).2 i hi').2⟩⟩⟩
   . simp only[HL,List.mem_append];exact .inl (ga.2 ⟨e.1,List.mem_map.2 ⟨e,hm,rfl⟩,hi'⟩)
   . simp only[HL,List.mem_append];exact .inr (ga.2 ⟨e.2,List.mem_map.2 ⟨e,hm,rfl⟩,hi'⟩)
 | d s pos=>exact h
 | c r=>exact absurd hl (by simp[yu])
 | e=>exact h
theorem mD{lo:Nat}:∀(d:Nat) {v:AV},ib lo d v->∀i∈aC v,i.1<lo
 | 0,v,h=>by cases h
 | d+1,v,h=>by
   have key:∀vs:List AV,vs.all (ib lo d)->∀i∈bw vs,i.1<lo:=λvs hv i hi=>by
    obtain⟨v,hvm,hi⟩:=ga.1 hi;exact mD d (List.all_eq_true.1 hv v hvm) i hi
   unfold ib at h;cases v<;>simp only at h<;>intro i hi<;>simp only[aC]at hi
   case g=>simp only[List.mem_singleton]at hi;subst hi;exact aU.1 h
   case c=>simp only[List.mem_singleton]at hi;subst hi;exact aU.1 h
   case q=>simp only[List.mem_singleton]at hi;subst hi;exact aU.1 h
   case m=>simp only[List.mem_singleton]at hi;subst hi;exact aU.1 h
   case j=>
    grind
   case k=>exact mD d h i hi
   case h=>exact key _ h i hi
   case e=>exact key _ h i hi
   all_goals cases hi
theorem tV{lo:Nat}{vs:List AV}(h:bc lo vs):∀i∈bw vs,i.1<lo:=λi hi=>by
 obtain⟨v,hvm,hi⟩:=ga.1 hi;exact mD 20 (List.all_eq_true.1 h v hvm) i hi
theorem y9{cfg:cL}{C1:bg}{D1 D':Nat->Prop}{m':Nat->bv}{o1 o2:aB}{w':World}(hi:dX cfg D m C o w)(hx:dw cfg C1 D1 m o1 w D' m' o2 w')(hD:∀i,D1 i->D i)
 (hn:∀i,D1 i->(dQ C1 o1 i).isSome->False) {v:AV} (hv:dh D' m' v) (hb:∀i∈aC v,D' i.1->D1 i.1):aj m' v=aj m v/\dh D m v/\dw cfg C D m o w D m o w'/\m6 D w D m w':=by
 have hf:∀k,k<w.heap.size->w'.heap[k]? = w.heap[k]? := λk hk=>hx.h0 k hk λi hi' hs=>(hn i hi' hs).elim;have hsame:∀i∈aC v,m' i.1=m i.1:=λi hm=>hx.a0 i.1 (hb i hm (hv i hm).1);refine⟨ja v hsame,λi hm=>⟨hD _ (hb i hm (hv i hm).1),by rw[<-hsame i hm];exact(hv i hm).2⟩,?_,hf,λi h1 h2=>absurd h1 h2⟩;exact⟨hi.d0 λj hj hl=>hf _ ((hi.a0 j hj).a0 hl),λ_ h=>h,λ_ _=>rfl,λ_ h=>.inl h,Nat.le_refl _,hx.os,hx.k0,hx.d0,hx.i0,λk hk _=>hf k hk,rfl,λi h1 h2=>absurd h1 h2⟩
theorem Au{C:bg}:∀{l:List (Nat×aD)} {o:aB} {i:Nat},o.os.length=o.n->(l.map (·.1)).Nodup->(∀p∈l,p.1<C.lo+o.n/\(dQ C o p.1).isSome=true)->i<C.lo+o.n->
 get C (p8 C o l) i=(match fp l i with
  | some x=>x
  | none=>get C o i)
 | [],o,i,_,_,_,_=>rfl
 | p::l,o,i,hl,hnd,hp,hi=>by
   obtain⟨hp1,hp2⟩:=hp p List.mem_cons_self;simp only[List.map_cons,List.nodup_cons]at hnd;rw[p8,Au (m8 hl) hnd.2 (λq hq=>by rw[vJ,ig qM];exact hp q (List.mem_cons_of_mem _ hq)) (by rw[vJ];exact hi)];rw[fp];by_cases e:p.1=i
   . have hnone:fp l i=none:=by
      cases hx:fp l i with
      | none=>rfl
      | some x=>exact absurd (e▸eY.1 (by rw[hx];rfl)) hnd.1
     rw[hnone,gm e,cond_true];simp only;rw[wZ hl hp1 hi hp2,if_pos e.symm]
   . rw[ic e,cond_false];cases hx:fp l i with
     | some x=>rfl
     | none=>
       simp only;rw[wZ hl hp1 hi hp2,if_neg (Ne.symm e)]
theorem F7{C:bg}:∀{l:List (Nat×aD)} {o:aB},(p8 C o l).n=o.n/\(p8 C o l).le.map (·.1)=o.le.map (·.1)/\(o.os.length=o.n->(p8 C o l).os.length=(p8 C o l).n)
 | [],o=>⟨rfl,rfl,λh=>h⟩
 | p::l,o=>by
   obtain⟨a,b,c⟩:=F7 (C:=C) (l:=l) (o:=ea C o p.1 p.2);exact⟨a.trans vJ,b.trans qM,λh=>c (m8 h)⟩
def AD(tmps:Array Value):ResultVar->Sem Value
 | .tmp t=>pure (tmps.getD t undef)
 | .cell a t=>do loadVar t (<-asAddr (tmps.getD a undef))
theorem Fq(fn:Func)(tmps:Array Value):results fn tmps=(do
 let vs <-fn.results.mapM (AD tmps)
 pure (if h:vs.size=1 then vs[0]else .tuple vs)):=by
 unfold results;have:(λx=>(match x with|.tmp t=>pure (tmps.getD t undef)|.cell a t=>(do loadVar t (<-asAddr (tmps.getD a undef))):Sem Value))=AD tmps:=by
  funext x;cases x<;>rfl
 rw[<-this];rfl
section
variable{P:Program}{T:fm}(hT:fH P T){cfg:cL}{code:bg->Code->St->Option (AX×St)}(hcode:y6 P cfg code)
include hT
theorem oD{C:bg}{D:Nat->Prop}{m:Nat->bv}{st:St}{a:Act}{w:World}(hi:dX cfg D m C st.o w)(ht:TR D m st a):∀{l:List ResultVar} {vs:List AV},DK T C st l=some vs->
 (l.mapM (AD a.tmps)).run P w=.ok (ap m vs) w/\fM D m vs
 | [],vs,h=>by cases h;exact⟨by simp[ap],fQ⟩
 | .tmp t::rest,vs,h=>by
   simp only[DK,ag,Option.some.injEq]at h;obtain⟨vs',hvs,rfl⟩:=h;obtain⟨h1,h2⟩:=oD hi ht hvs;refine⟨?_,ct.2 ⟨ht.c0 t,h2⟩⟩;simp only[List.mapM_cons,AD,Sem.run_bind,Sem.run_pure,Result.andThen_ok,h1,ht.d0 t,ap]
 | .cell b t::rest,vs,h=>by
   simp only[DK,ag,Option.some.injEq]at h;obtain⟨v,hv,vs',hvs,rfl⟩:=h;obtain⟨h1,h2⟩:=oD hi ht hvs;obtain⟨ad,hc,hr,hok⟩:=AB hT hi (ht.c0 b) hv;refine⟨?_,ct.2 ⟨hok,h2⟩⟩;have ha:(asAddr (aj m (st.ts.a0 b))).run P w=.ok ad w:=by rw[hc];rfl
   simp only[List.mapM_cons,AD,Sem.run_bind,Sem.run_pure,Result.andThen_ok,ht.d0 b,ha,hr,h1,ap]
theorem xw{st:St}{a:Act}(hi:dX cfg D m C st.o w)(ht:TR D m st a){vs:List AV}(h:DK T C st fn.results.toList=some vs) :
 (results fn a.tmps).run P w=.ok (aj m (w_ vs)) w/\dh D m (w_ vs):=by
 obtain⟨h1,h2⟩:=oD hT hi ht h;have hm:(fn.results.mapM (AD a.tmps)).run P w=.ok (ap m vs).toArray w:=by
  rw[Array.mapM_eq_mapM_toList,Sem.run_map,h1];rfl
 refine⟨?_,?_⟩
 . rw[Fq,Sem.run_bind,hm,Result.andThen_ok,Sem.run_pure];cases vs with
   | nil=>simp[ap,w_,aj]
   | cons v vs=>
     cases vs with
     | nil=>simp[ap,w_]
     | cons u us=>simp[ap,w_,aj]
 . cases vs with
   | nil=>exact gh.2 h2
   | cons v vs=>
     cases vs with
     | nil=>exact(ct.1 h2).1
     | cons u us=>exact gh.2 h2
theorem CD{le:aB}(hlen:args.length<=1000)(hok:fM D m args) :
 TR D m (jS fn args le) { tmps:=(ap m args).toArray++Array.replicate (fn.ntmps-(ap m args).toArray.size) undef,defers:=[] }:=by
 have hcl:(ap m args).length=args.length:=b7;have hg:∀t,(jS fn args le).ts.a0 t=if t<args.length then args.getD t bt else bt:=λt=>by
  have:=Ts.l0 args 0 .b0 t (by omega);simp only[jS,this,Nat.zero_le,Nat.zero_add,true_and,Nat.sub_zero,Ts.f0]
 refine⟨?_,λt=>?_,λt=>?_,rfl,λd hd=>(by cases hd),λi hi=>(by cases hi)⟩
 . simp only[jS,Array.size_append,List.size_toArray,Array.size_replicate,hcl];omega
 . rw[hg t];by_cases h:t<args.length
   . rw[if_pos h];have h1:(ap m args)[t]? = some (aj m (args.getD t bt)):=by
      rw[gi];simp[h]
     simp only[Array.getD,Array.size_append,List.size_toArray,hcl];rw[dif_pos (by omega),Array.getInternal_eq_getElem,Array.getElem_append_left (by simp[hcl];exact h)];have h2:t<(ap m args).length:=by omega
     rw[List.getElem?_eq_getElem h2,Option.some.injEq]at h1;simpa using h1
   . rw[if_neg h,iX];simp only[Array.getD];split
     . simp_all
     . rfl
 . rw[hg t];by_cases h:t<args.length
   . rw[if_pos h];exact df.1 hok _ (by simp[List.getD_eq_getElem?_getD,h])
   . rw[if_neg h];exact iy
omit hT in
theorem tQ{fn:Func}{tmps:Array Value}{R:Ending->World->Prop}{C:bg}{D:Nat->Prop}{m:Nat->bv}:∀{ds:List Nat} {o o':aB} {w:World},qQ C o ds=some o'->dX cfg D m C o w->(∀d∈ds,D d)->
 (∀w',dw cfg C D m o w D m o' w'->LeavesIn Fence.wide 0 P fn tmps R [] .returning w')->LeavesInM Fence.wide 0 P fn tmps R (gJ m ds) .returning w
 | [],o,o',w,h,hi,hd,hk=>by
   cases h;exact hk w (dw.e0 hi)
 | d::ds,o,o',w,h,hi,hd,hk=>by
   unfold qQ at h;split at h
   . rename_i hx;have hdd:=hd d List.mem_cons_self;have hb:w.heap[(m d).a0]? = some (.deferred (some [])):=by
      have:=hi.a0 d hdd;rw[fI hx]at this;exact this
     have hlt:(m d).a0<w.heap.size:=(Array.getElem?_eq_some_iff.1 hb).1;have he:dw cfg C D m o w D m (ea C o d .b) (w.putObj (m d).a0 (.deferred none)):=
      dw.n0 hi hdd hx rfl (by simp) (λk hk=>World.putObj_heap_other hk) trivial rfl rfl rfl
     exact⟨by simp,.inl ⟨(m d).a0,_,rfl,run_takeDeferred hb,tQ h he.b0 (λd' hd'=>hd d' (List.mem_cons_of_mem _ hd')) λw' hw'=>hk w' (he.c0 hw')⟩⟩
   . cases h
include hcode
theorem rR(hb:bj T f=some (fn,c)){o0:aB}{r:AV×aB}(h:lI T code C fn c args o0=some r)
 (hi:dX cfg D m C o0 w) (hok:fM D m args) {R:Value->World->Prop} (hR:∀D' m' w',dh D' m' r.1->dw cfg C D m o0 w D' m' r.2 w'->R (aj m' r.1) w'):(callFunc f (ap m args).toArray).run P w=.ok (.enter f (ap m args).toArray) w/\Calls P f (ap m args).toArray w λe w'=>∃v,e=.returned v/\R v w':=by
 simp only[bj,ag,Option.some.injEq,Prod.mk.injEq]at hb;obtain⟨fn',hfn,c',hbody,rfl,rfl⟩:=hb;obtain⟨hf,hname⟩:=hT.fn f fn' hfn;obtain⟨hlen,x,o,vs,hx,hne,hmk,hres,rfl⟩:=vM h;refine⟨?_,?_⟩
 . simp[callFunc,hf,hname,hbody]
 . refine callsIn_wide.1 (callsIn_of_wp_marks (n:=0) hf hbody trivial ?_);refine hcode _ _ _ _ hx D m _ w hi (CD hT hlen hok) _ λD' m' a' w' ht he=>?_;have this:LeavesInM Fence.wide 0 P fn' a'.tmps (λe w''=>∃v,e=.returned v/\R v w'') a'.defers .returning w':=by
    rw[ht.a0];refine tQ hmk he.b0 ht.e0 λw2 he2=>?_;have ht2:TR D' m' ⟨x.2.ts,x.2.tn,o,[],none⟩ ⟨a'.tmps,[]⟩:=⟨ht.b0,ht.d0,ht.c0,rfl,λd hd=>(by cases hd),λi hi=>(by cases hi)⟩;obtain⟨h1,h2⟩:=xw hT he2.b0 ht2 hres;exact⟨_,h1,_,rfl,hR D' m' w2 h2 (he.c0 he2)⟩
   cases hxe:x.1 with
   | a=>exact this
   | c=>exact this
   | b id=>exact absurd hxe (hne id)
end
section
variable{P:Program}{T:fm}(hT:fH P T){cfg:cL}(hK:qX cfg){code:bg->Code->St->Option (AX×St)}(hcode:y6 P cfg code)(hll:mQ code)
include hT hK hcode hll
theorem xk(hb:bj T f=some (fn,c)){v:AV}(hbl:bc cfg.a0.n args)(h:An T cfg code fn c args=some v)
 (hi:dX cfg D m C o w) (hok:fM D m args):jV P f (ap m args).toArray w λV w'=>V=aj m v/\dh D m v/\dw cfg C D m o w D m o w'/\m6 D w D m w':=by
 simp only[An,ag,aA,Option.some.injEq]at h;obtain⟨r,he,hbe,rfl⟩:=h;have hg:∀id,id<cfg.a0.n->get ⟨[(0,cfg.a0)],cfg.a0.n⟩ ⟨0,[],[]⟩ id=cfg.a0.at id:=λid hid=>by
  rw[get,gB,jT (by omega:¬cfg.a0.n<=id)];simp only[cond_false,fp,gB];rw[bx.2 (Nat.zero_le _),cond_true,Nat.sub_zero]
 have hi0:dX cfg (λid=>D id/\id<cfg.a0.n) m ⟨[(0,cfg.a0)],cfg.a0.n⟩ ⟨0,[],[]⟩ w:=by
  refine⟨λid hd=>?_,λi j hdi hdj hij hl hr=>?_,λid hd=>hd.2,λg hg'=>?_,λid hid=>?_,λid hid=>(by cases hid),Nat.le_refl _,rfl⟩
  . rw[hg id hd.2,<-(hi.b0 id hd.2).2];refine(hi.a0 id hd.1).c0 (by rw[(hi.b0 id hd.2).2];exact hK.a0 id hd.2) λi hm hD=>⟨hD,?_⟩;rw[(hi.b0 id hd.2).2]at hm;exact hK.b0 id hd.2 i hm
  . rw[hg i hdi.2,<-(hi.b0 i hdi.2).2]at hl;rw[hg j hdj.2,<-(hi.b0 j hdj.2).2]at hr;exact hi.inj i j hdi.1 hdj.1 hij hl hr
  . obtain⟨a1,a2,a3⟩:=hi.c0 g hg';exact⟨⟨a1,Nat.lt_of_lt_of_le hg' hK.G⟩,a2,a3⟩
  . exact⟨⟨(hi.b0 id hid).1,hid⟩,hg id hid⟩
 refine .inl (rR hT hcode hb he hi0 (λi hm=>⟨⟨(hok i hm).1,tV hbl i hm⟩,(hok i hm).2⟩) λD' m' w' hv hx=>?_);refine y9 hi hx (λi hd=>hd.1) (λi hd hs=>?_) hv λi hm hd'=>?_
 . unfold dQ at hs;rw[jT (by have:=hd.2;simp only;omega)]at hs;simp[fp]at hs
 . rcases hx.l0 i.1 hd' with hd|hge
   . exact hd
   . have:=mD 20 hbe i hm;simp only at hge;omega
theorem Jf(hb:bj T f=some (fn,c)){ids:List Nat}(hids:∀i∈ids,D i){r:AV×aB}(h:A9 T code C fn c args o (gy C o ids)=some r)
 (hi:dX cfg D m C o w) (hok:fM D m args) :
 jV P f (ap m args).toArray w λV w'=>∃D' m',V=aj m' r.1/\dh D' m' r.1/\dw cfg C D m o w D' m' r.2 w'/\(ids=[]->m6 D w D' m' w'):=by
 simp only[A9,ag,Option.some.injEq]at h;obtain⟨r1,he,rfl⟩:=h;have hlo:=hi.lo;have hleD:∀p∈gy C o ids,D p.1/\dQ C o p.1=some p.2:=λp hp=>⟨hids _ (jg hp).1,(jg hp).2⟩;have hleg:∀(le:List (Nat×aD)) id x,fp le id=some x->∃p∈le,p=(id,x):=by
  intro le;induction le with
  | nil=>intro id x h;cases h
  | cons p le ih=>
    intro id x h;rw[fp]at h;by_cases e:p.1=id
    . grind
    . rw[ic e,cond_false]at h;obtain⟨q,hq,e'⟩:=ih id x h;exact⟨q,List.mem_cons_of_mem _ hq,e'⟩
 have hC1:∀(o1:aB) id,id<C.lo+o.n->get ⟨(C.lo,o)::C.B,C.lo+o.n⟩ o1 id=(match fp o1.le id with
  | some x=>x
  | none=>get C o id):=λo1 id hid=>by
  rw[get,gB,jT (by simp only;omega)];rfl
 have hg:∀id,id<C.lo+o.n->get ⟨(C.lo,o)::C.B,C.lo+o.n⟩ ⟨0,[],gy C o ids⟩ id=get C o id:=λid hid=>by
  rw[hC1 _ id hid];simp only;cases hx:fp (gy C o ids) id with
  | none=>rfl
  | some x=>
    obtain⟨p,hp,e⟩:=hleg _ _ _ hx;have:=(hleD p hp).2;rw[e]at this;exact(fI this).symm
 have hown:∀id,D id->(dQ ⟨(C.lo,o)::C.B,C.lo+o.n⟩ ⟨0,[],gy C o ids⟩ id).isSome->id∈ids/\(dQ C o id).isSome=true:=λid hd hs=>by
  unfold dQ at hs;rw[jT (by have:=hi.lt id hd;simp only;omega)]at hs;simp only[cond_false]at hs;obtain⟨p,hp,e⟩:=List.mem_map.1 (eY.1 hs);rw[<-e];exact⟨(jg hp).1,by rw[(hleD p hp).2];rfl⟩
 have hi1:dX cfg D m ⟨(C.lo,o)::C.B,C.lo+o.n⟩ ⟨0,[],gy C o ids⟩ w:=by
  refine⟨λid hd=>?_,λi j hdi hdj hij hl hr=>?_,λid hd=>hi.lt id hd,hi.c0,λid hid=>?_,λid hid=>?_,by simp only;omega,rfl⟩
  . rw[hg id (hi.lt id hd)];exact hi.a0 id hd
  . rw[hg i (hi.lt i hdi)]at hl;rw[hg j (hi.lt j hdj)]at hr;exact hi.inj i j hdi hdj hij hl hr
  . rw[hg id (hi.lt id (hi.b0 id hid).1)];exact hi.b0 id hid
  . obtain⟨p,hp,e⟩:=List.mem_map.1 hid;obtain⟨hd,ho⟩:=hleD p hp;rw[<-e];refine⟨?_,hi.lt p.1 hd⟩;unfold dQ at ho;by_cases hb':C.lo<=p.1
    . omega
    . rw[jT hb',cond_false]at ho;exact(hi.le p.1 (eY.1 (by rw[ho];rfl))).1
 refine .inl (rR hT hcode hb he hi1 hok λD' m' w' hv hx=>?_);obtain⟨hl1,hl2⟩:=pB hll he rfl;simp only at hl2;have take:∀o2:aB,o2.n=r1.2.n+o.n->o2.le.map (·.1)=o.le.map (·.1)->o2.os.length=o2.n->(∀id,D' id->get C o2 id=get ⟨(C.lo,o)::C.B,C.lo+o.n⟩ r1.2 id)->
  dw cfg C D m o w D' m' o2 w':=by
  intro o2 hn hle hlen hget;have hi2:dX cfg D' m' C o2 w':=by
   refine⟨λid hd=>by rw[hget id hd];exact hx.b0.a0 id hd,λi j hdi hdj hij hl hr=>?_,λid hd=>?_,hx.b0.c0,λid hid=>?_,λid hid=>?_,hi.lo,hlen⟩
   . rw[hget i hdi]at hl;rw[hget j hdj]at hr;exact hx.b0.inj i j hdi hdj hij hl hr
   . have:=hx.b0.lt id hd;simp only at this;omega
   . rw[hget id (hx.b0.b0 id hid).1];exact hx.b0.b0 id hid
   . rw[hle]at hid;exact hi.le id hid
  refine⟨hi2,hx.f0,hx.a0,λi hd=>?_,by omega,hx.os,hx.k0,hx.d0,hx.i0,λk hk hn=>hx.h0 k hk λi hd hs=>hn i hd (hown i hd hs).2,hle,λi hd hnd=>?_⟩
  . have:=hx.l0 i hd;simpa using this
  . rcases hx.g0 i hd hnd with hf|⟨j,hj,hoj,e⟩
    . omega
    . grind
 have mute:ids=[]->m6 D w D' m' w':=λe=>by
  have hno:∀i,D i->(dQ ⟨(C.lo,o)::C.B,C.lo+o.n⟩ ⟨0,[],gy C o ids⟩ i).isSome->False:=λi hd hs=>by
   grind
  exact⟨λk hk=>hx.h0 k hk λi hd hs=>(hno i hd hs).elim,λi hd hnd=>(hx.g0 i hd hnd).resolve_right λ⟨j,hj,hoj,_⟩=>hno j hj hoj⟩
 have hgrown:∀id,D' id->fp r1.2.le id=none->get C (grown r1.2 o) id=get ⟨(C.lo,o)::C.B,C.lo+o.n⟩ r1.2 id:=λid hd hle=>by
  by_cases hid:id<C.lo+o.n
  . rw[ta hl1 hid,hC1 _ id hid,hle]
  . have hlt:=hx.b0.lt id hd;simp only at hlt;rw[AE hl1 (by omega) (by omega),get,gB,bx.2 (by simp only;omega),cond_true]
 unfold Cg;cases hle:gy C o ids with
 | nil=>
   rw[hle]at hl2;have hle2:r1.2.le=[]:=by simpa using hl2
   simp only;cases hbe:ib (C.lo+o.n) 20 r1.1 with
   | true=>
     simp only[cond_true];obtain⟨h1,h2,h3,h4⟩:=y9 hi hx (λi hd=>hd) (λi hd hs=>by
      unfold dQ at hs;rw[jT (by have:=hi.lt i hd;simp only;omega),hle]at hs;simp[fp]at hs) hv λi hm hd'=>by
       rcases hx.l0 i.1 hd' with hd|hge
       . exact hd
       . have:=mD 20 hbe i hm;simp only at hge;omega
     exact⟨D,m,h1,h2,h3,λ_=>h4⟩
   | false=>
     simp only[cond_false];refine⟨D',m',rfl,hv,take _ rfl rfl (by simp[hl1,hi.e0]) λid hd=>?_,mute⟩;exact hgrown id hd (by rw[hle2];rfl)
 | cons p ps=>
   simp only;obtain⟨b1,b2,b3⟩:=F7 (C:=C) (l:=r1.2.le) (o:=grown r1.2 o);have hgl:(grown r1.2 o).os.length=(grown r1.2 o).n:=by simp[grown,hl1,hi.e0]
   refine⟨D',m',rfl,hv,take _ b1 b2 (b3 hgl) λid hd=>?_,mute⟩;have hlt:=hx.b0.lt id hd;simp only at hlt;have hnd:(r1.2.le.map (·.1)).Nodup:=by rw[hl2];exact ld
   have hpp:∀q∈r1.2.le,q.1<C.lo+(grown r1.2 o).n/\(dQ C (grown r1.2 o) q.1).isSome=true:=λq hq=>by
    have:q.1∈(gy C o ids).map (·.1):=by rw[<-hl2];exact List.mem_map.2 ⟨q,hq,rfl⟩
    obtain⟨q',hq',e⟩:=List.mem_map.1 this;obtain⟨hd',ho'⟩:=hleD q' hq';have hlt':=hi.lt q'.1 hd';rw[<-e];refine⟨by simp only[grown];omega,?_⟩;rw[show(dQ C (grown r1.2 o) q'.1).isSome=(dQ C o q'.1).isSome from ig (o:=o) (o':=grown r1.2 o) rfl q'.1,ho'];rfl
   have:=Au (i:=id) hgl hnd hpp (by simp only[grown];omega);rw[show(⟨r1.2.n+o.n,r1.2.os++o.os,o.le⟩:aB)=grown r1.2 o from rfl,this];cases hx':fp r1.2.le id with
   | none=>exact hgrown id hd hx'
   | some y=>
     simp only;have hid:id<C.lo+o.n:=by
      have:id∈r1.2.le.map (·.1):=eY.1 (by rw[hx'];rfl);rw[hl2]at this;obtain⟨q',hq',e⟩:=List.mem_map.1 this;rw[<-e];exact hi.lt q'.1 (hleD q' hq').1
     rw[hC1 _ id hid,hx']
theorem yQ{inl:Bool}{mu:Prop}(hmu:inl->¬mu)(horc:jH P cfg True λC f args o=>cfg.c0 f C args o):jH P cfg mu (lf T cfg inl code):=by
 intro C f args o r h D m w hi hok;unfold lf at h;cases ho:cfg.c0 f C args o with
 | some r'=>
   rw[ho]at h;cases h;exact(horc C f args o r ho D m w hi hok).a0 λV w' ⟨D',m',h1,h2,h3,h4⟩=>⟨D',m',h1,h2,h3,λ_=>h4 trivial⟩
 | none=>
   rw[ho]at h;simp only[D6,ag]at h;obtain⟨⟨fn,c⟩,hb,h⟩:=h;cases hc:(cfg.d0 f&&bc cfg.a0.n args)with
   | true=>
     simp only[hc,cond_true,ag,Option.some.injEq]at h;obtain⟨v,hv,rfl⟩:=h;rw[Bool.and_eq_true]at hc;exact(xk hT hK hcode hll hb hc.2 hv hi hok).a0 λV w' ⟨h1,h2,h3,h4⟩=>⟨D,m,h1,h2,h3,λ_ _=>h4⟩
   | false=>
     simp only[hc,cond_false,DZ]at h;cases hy:(inl&&Dx args)with
     | true=>
       rw[hy,cond_true]at h;rw[Bool.and_eq_true]at hy;exact .inl (rR hT hcode hb h hi hok λD' m' w' hv hx=>⟨D',m',rfl,hv,hx,λhm=>(hmu hy.1 hm).elim⟩)
     | false=>
       rw[hy,cond_false]at h;exact(Jf hT hK hcode hll hb (λi hm=>nh hok hm) h hi hok).a0 λV w' ⟨D',m',h1,h2,h3,h4⟩=>⟨D',m',h1,h2,h3,λ_=>h4⟩
end
theorem CS{D:Nat->Prop}{m:Nat->bv}{tn:Nat}:∀{ps:List Tmp} {vs:List AV} {tmps:Array Value} {ts ts':Ts},Hp tn ts ps vs=some ts'->tmps.size=tn->(∀t,tmps.getD t undef=aj m (ts.a0 t))->(∀t,dh D m (ts.a0 t))->fM D m vs->
 (((ps.zip (ap m vs)).foldl (λtmps (p:Tmp×Value)=>tmps.setIfInBounds p.1 p.2) tmps).size=tn/\(∀t,((ps.zip (ap m vs)).foldl (λtmps (p:Tmp×Value)=>tmps.setIfInBounds p.1 p.2) tmps).getD t undef=aj m (ts'.a0 t))/\∀t,dh D m (ts'.a0 t))/\ps.length=vs.length
 | [],[],tmps,ts,ts',h,h1,h2,h3,_=>by cases h;exact⟨⟨by simpa [ap]using h1,λt=>by simpa [ap]using h2 t,h3⟩,rfl⟩
 | p::ps,v::vs,tmps,ts,ts',h,h1,h2,h3,h4=>by
   simp only[Hp,aA,Bool.and_eq_true,aU]at h;obtain⟨⟨hp1,hp2⟩,h⟩:=h;obtain⟨hv,hvs⟩:=ct.1 h4;have hd:p<2^20-1:=Nat.lt_of_lt_of_le hp2 (by decide);obtain⟨a,b⟩:=CS (tmps:=tmps.setIfInBounds p (aj m v)) h (by simp[h1]) (λt=>by
    rw[Ts.d0 20 _ _ _ _ hd];have:=h2 t;by_cases e:t=p
    . simp_all
    . rw[if_neg e,<-this];simp only[Array.getD,Array.size_setIfInBounds];split
      . rw[Array.getInternal_eq_getElem,Array.getInternal_eq_getElem,Array.getElem_setIfInBounds_ne (h:=λe'=>e e'.symm)]
      . rfl) (λt=>by
    rw[Ts.d0 20 _ _ _ _ hd];split
    . exact hv
    . exact h3 t) hvs
   refine⟨?_,by simp[b]⟩;simpa [ap]using a
 | [],_::_,_,_,_,h,_,_,_,_=>by cases h
 | _::_,[],_,_,_,h,_,_,_,_=>by cases h
theorem HE{α β γ:Type}(f:γ->α->β->γ)(xs:Array α)(ys:List β)(z:γ):(xs.zip ys.toArray).foldl (λc (x,y)=>f c x y) z=(xs.toList.zip ys).foldl (λc p=>f c p.1 p.2) z:=by
 rw[<-Array.foldl_toList];simp
section
variable{P:Program}{cfg:cL}{code:bg->Code->St->Option (AX×St)}(hcode:y6 P cfg code)(hll:mQ code)
include hcode hll
theorem Id:CN P cfg False (qJ code):=by
 intro C id args o r h;refine⟨λhf=>hf,λD m w hi hd hok=>?_⟩;simp only[qJ,ag]at h;obtain⟨q,hq,ts,hts,x,hx,h⟩:=h;simp only[oO,aA,ag]at h;obtain⟨hn,q1,hq1,hrd,x2,hx2,h⟩:=h;simp only[u_,ag,Option.some.injEq]at h;obtain⟨q2,hq2,rfl⟩:=h;have hown:=im hq;obtain⟨fn,tmps,hb,hrel⟩:∃fn tmps,w.heap[(m id).a0]? = some (.loop (eR m q fn tmps))/\j_ D m q fn tmps:=by
  have:=hi.a0 id hd;rw[fI hown]at this;exact this
 obtain⟨⟨s1,s2,s3⟩,s4⟩:=CS hts hrel.b0 hrel.d0 hrel.c0 hok;have hsz:(ap m args).toArray.size=(eR m q fn tmps).params.size:=by
  have:(ap m args).length=args.length:=b7;simp only[List.size_toArray,this,eR,<-s4,Array.length_toList]
 refine⟨_,_,_,_,run_yield hb hsz,?_⟩;refine roundIn_of_wpIn (F:=Fence.wide) trivial ?_;have hT0:TR D m ⟨ts,q.tn,o,[],some id⟩ { tmps:=((eR m q fn tmps).params.zip (ap m args).toArray).foldl (λtmps (t,a)=>tmps.setIfInBounds t a) (eR m q fn tmps).tmps,defers:=[] }:=by
  have e:=HE (λ(c:Array Value)(t:Tmp)(a:Value)=>c.setIfInBounds t a) (eR m q fn tmps).params (ap m args) (eR m q fn tmps).tmps;refine⟨?_,λt=>?_,s3,rfl,λd hd=>(by cases hd),λi hi=>(by cases hi;exact hd)⟩
  . rw[e];exact s1
  . rw[e];exact s2 t
 refine hcode C q.a0 ⟨ts,q.tn,o,[],some id⟩ x hx D m _ w hi hT0 _ λD1 m1 a1 w1 ht1 he1=>?_;have hx1:x.1=.a:=by cases hxe:x.1<;>rw[hxe]at hn<;>first|rfl|cases hn
 rw[hx1];have hd1:=he1.f0 id hd;have hm1:=he1.a0 id hd;have hown1:=im hq1;obtain⟨fn1,tmps1,hb1,hrel1⟩:∃fn tmps,w1.heap[(m1 id).a0]? = some (.loop (eR m1 q1 fn tmps))/\j_ D1 m1 q1 fn tmps:=by
  have:=he1.b0.a0 id hd1;rw[fI hown1]at this;exact this
 have hlt1:=(Array.getElem?_eq_some_iff.1 hb1).1;have hst:(eR m1 q1 fn1 tmps1).state=.ready:=by
  show q1.f0=.ready;cases hs:q1.f0<;>rw[hs]at hrd<;>first|rfl|cases hrd
 have hbr:=run_beginRound (P:=P) hb1 hst;have he2:dw cfg C D1 m1 x.2.o w1 D1 m1 (ea C x.2.o id (.c ⟨.busy,q1.e0,q1.ts,q1.tn,q1.b0,q1.a0,q1.d0,q1.c0⟩)) (w1.putObj (m1 id).a0 (.loop { eR m1 q1 fn1 tmps1 with state:=.busy })):=
  dw.n0 he1.b0 hd1 hown1 rfl (by simp) (λk hk=>World.putObj_heap_other hk) ⟨fn1,tmps1,World.putObj_heap_same hlt1,⟨hrel1.b0,hrel1.d0,hrel1.c0,hrel1.a0⟩⟩ rfl rfl rfl
 show ∃w₂,(Instr.beginRound (m id).a0).run P w1=.ok () w₂/\_;rw[<-hm1];refine⟨_,hbr,?_⟩;have hro:wo m1 x.2.ro=some (m1 id).a0:=by rw[(hll _ _ _ _ hx).2];rfl
 have hbody:=hcode C q.d0 ⟨x.2.ts,x.2.tn,ea C x.2.o id (.c ⟨.busy,q1.e0,q1.ts,q1.tn,q1.b0,q1.a0,q1.d0,q1.c0⟩),x.2.ds,x.2.ro⟩ x2 hx2 D1 m1 a1 _ he2.b0 ⟨ht1.b0,ht1.d0,ht1.c0,ht1.a0,ht1.e0,ht1.f0⟩
  (roundPost P (m1 id).a0 λe w'=>∃v,e=.returned v/\∃D' m',v=aj m' (.b (qu x2.1))/\dh D' m' (.b (qu x2.1))/\dw cfg C D m o w D' m' (ea C x2.2.o id (.c ⟨lY x2.1,m9 x2.1,q2.ts,q2.tn,q2.b0,q2.a0,q2.d0,q2.c0⟩)) w')
 rw[hro]at hbody;refine hbody λD3 m3 a3 w3 ht3 he3=>?_;have hd3:=he3.f0 id hd1;have hm3:=he3.a0 id hd1;have hown3:=im hq2;obtain⟨fn3,tmps3,hb3,hrel3⟩:∃fn tmps,w3.heap[(m3 id).a0]? = some (.loop (eR m3 q2 fn tmps))/\j_ D3 m3 q2 fn tmps:=by
  have:=he3.b0.a0 id hd3;rw[fI hown3]at this;exact this
 have hlt3:=(Array.getElem?_eq_some_iff.1 hb3).1;have he4:dw cfg C D3 m3 x2.2.o w3 D3 m3 (ea C x2.2.o id (.c ⟨lY x2.1,m9 x2.1,q2.ts,q2.tn,q2.b0,q2.a0,q2.d0,q2.c0⟩)) (w3.putObj (m3 id).a0 (.loop { eR m3 q2 fn3 tmps3 with state:=lY x2.1,pending:=m9 x2.1 })):=
  dw.n0 he3.b0 hd3 hown3 rfl (by simp) (λk hk=>World.putObj_heap_other hk) ⟨fn3,tmps3,World.putObj_heap_same hlt3,⟨hrel3.b0,hrel3.d0,hrel3.c0,hrel3.a0⟩⟩ rfl rfl rfl
 have hall:=he1.c0 (he2.c0 (he3.c0 he4));rw[<-hm3];have hend:∀j:Option Code,j=m9 x2.1->∃v w',(Instr.endRound (m3 id).a0 j).run P w3=.ok v w'/\∃v',Ending.returned v=.returned v'/\∃D' m',v'=aj m' (.b (qu x2.1))/\dh D' m' (.b (qu x2.1))/\dw cfg C D m o w D' m' (ea C x2.2.o id (.c ⟨lY x2.1,m9 x2.1,q2.ts,q2.tn,q2.b0,q2.a0,q2.d0,q2.c0⟩)) w':=by
  rintro j rfl;have hbool:(m9 x2.1).isNone=qu x2.1:=by cases x2.1<;>rfl
  have hstate:(if(m9 x2.1).isNone then LoopState.ready else LoopState.done)=lY x2.1:=by cases x2.1<;>rfl
  have hr:=run_endRound (P:=P) (m9 x2.1) hb3;rw[hbool]at hr;rw[hbool]at hstate;rw[hstate]at hr;exact⟨_,_,hr,_,rfl,D3,m3,by simp[aj],bM (by simp[aC]),hall⟩
 cases hxe:x2.1 with
 | a=>rw[hxe]at hend;exact hend none rfl
 | c=>rw[hxe]at hend;exact hend (some .ret) rfl
 | b j=>rw[hxe]at hend;exact hend (some (.exit j)) rfl
end
end Go.Ev
