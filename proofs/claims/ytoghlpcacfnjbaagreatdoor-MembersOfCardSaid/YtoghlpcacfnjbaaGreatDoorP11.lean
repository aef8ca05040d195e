import Derived.RangeFuncRecord
import Derived.Test.YtoghlpcacfnjbaaGreatDoorP10
set_option linter.all false
set_option maxRecDepth 100000
set_option maxHeartbeats 4000000
namespace Go.Ev
open Go Go.RowKit
variable{D:Nat->Prop}{m:Nat->bq}{C:bg}{o:aC}{w:World}{fn:Func}{args:List AV}{f:FuncId}{c:Code}
def lE:AX->Exit
 | .normal=>.normal
 | .exit id=>.exit id
 | .ret=>.ret
def wI(P:Program)(cfg:cG)(code:bg->Code->St->Option (AX×St)):Prop:=
 ∀C c st r,code C c st=some r->∀D m a w,dV cfg D m C st.o w->TR D m st a->∀Q:Exit->Act->World->Prop,
  (∀D' m' a' w',TR D' m' r.2 a'->dk cfg C D m st.o w D' m' r.2.o w'->Q (lE r.1) a' w')->c.wpIn (FR (vL m st.ro)) 0 P Q a w
def Ho:aE->List (Nat×Nat)
 | .cells cs _ _=>bz cs
 | .map es=>bz (es.map (·.1))++bz (es.map (·.2))
 | _=>[]
def xp:aE->Bool
 | .loop _=>false
 | _=>true
structure rI(cfg:cG):Prop where
 loops:∀id,id<cfg.root.n->xp (cfg.root.at id)=true
 G:cfg.G<=cfg.root.n
 root:∀id,id<cfg.root.n->∀i∈Ho (cfg.root.at id),i.1<cfg.root.n
theorem cS.narrow{D':Nat->Prop}{l:bq}{x:aE}{b:Option Obj}(h:cS D m l x b)(hl:xp x)(hi:∀i∈Ho x,D i.1->D' i.1):cS D' m l x b:=by
 cases x with
 | dead=>trivial
 | cells cs rw g=>
   obtain⟨c,e,fz,hb,hc⟩:=h;exact⟨c,e,fz,hb,hc.at',λi hm=>⟨hi i hm (hc.okc i hm).1,(hc.okc i hm).2⟩,hc.free,hc.grow⟩
 | map es=>
   obtain⟨en,ck,hb,he,ho⟩:=h;refine⟨en,ck,hb,he,λe hm=>⟨λi hi'=>⟨hi i ?_ ((ho e hm).1 i hi').1,((ho e hm).1 i hi').2⟩,λi hi'=>⟨hi i ?_ ((ho e hm).2 i hi').1,((ho e hm).2 i hi').2⟩⟩⟩
   . simp only[Ho,List.mem_append];exact .inl (fO.2 ⟨e.1,List.mem_map.2 ⟨e,hm,rfl⟩,hi'⟩)
   . simp only[Ho,List.mem_append];exact .inr (fO.2 ⟨e.2,List.mem_map.2 ⟨e,hm,rfl⟩,hi'⟩)
 | siter s pos=>exact h
 | loop r=>exact absurd hl (by simp[xp])
 | defs=>exact h
theorem lX{lo:Nat}:∀(d:Nat) {v:AV},hJ lo d v->∀i∈aD v,i.1<lo
 | 0,v,h=>by cases h
 | d+1,v,h=>by
   have key:∀vs:List AV,vs.all (hJ lo d)->∀i∈bz vs,i.1<lo:=λvs hv i hi=>by
    obtain⟨v,hvm,hi⟩:=fO.1 hi;exact lX d (List.all_eq_true.1 hv v hvm) i hi
   unfold hJ at h;cases v<;>simp only at h<;>intro i hi<;>simp only[aD]at hi
   case ptr=>simp only[List.mem_singleton]at hi;subst hi;exact aS.1 h
   case slice=>simp only[List.mem_singleton]at hi;subst hi;exact aS.1 h
   case map=>simp only[List.mem_singleton]at hi;subst hi;exact aS.1 h
   case yield=>simp only[List.mem_singleton]at hi;subst hi;exact aS.1 h
   case func=>
    grind
   case iface=>exact lX d h i hi
   case agg=>exact key _ h i hi
   case tuple=>exact key _ h i hi
   all_goals cases hi
theorem ti{lo:Nat}{vs:List AV}(h:bw lo vs):∀i∈bz vs,i.1<lo:=λi hi=>by
 obtain⟨v,hvm,hi⟩:=fO.1 hi;exact lX 20 (List.all_eq_true.1 h v hvm) i hi
theorem xG{cfg:cG}{C1:bg}{D1 D':Nat->Prop}{m':Nat->bq}{o1 o2:aC}{w':World}(hi:dV cfg D m C o w)(hx:dk cfg C1 D1 m o1 w D' m' o2 w')(hD:∀i,D1 i->D i)
 (hn:∀i,D1 i->(dW C1 o1 i).isSome->False) {v:AV} (hv:db D' m' v) (hb:∀i∈aD v,D' i.1->D1 i.1):aj m' v=aj m v/\db D m v/\dk cfg C D m o w D m o w'/\ni D w D m w':=by
 have hf:∀k,k<w.heap.size->w'.heap[k]? = w.heap[k]? := λk hk=>hx.frame k hk λi hi' hs=>(hn i hi' hs).elim;have hsame:∀i∈aD v,m' i.1=m i.1:=λi hm=>hx.same i.1 (hb i hm (hv i hm).1);refine⟨iY v hsame,λi hm=>⟨hD _ (hb i hm (hv i hm).1),by rw[<-hsame i hm];exact(hv i hm).2⟩,?_,hf,λi h1 h2=>absurd h1 h2⟩;exact⟨hi.world λj hj hl=>hf _ ((hi.obj j hj).in_heap hl),λ_ h=>h,λ_ _=>rfl,λ_ h=>.inl h,Nat.le_refl _,hx.os,hx.tape,hx.output,hx.size,λk hk _=>hf k hk,rfl,λi h1 h2=>absurd h1 h2⟩
theorem zR{C:bg}:∀{l:List (Nat×aE)} {o:aC} {i:Nat},o.os.length=o.n->(l.map (·.1)).Nodup->(∀p∈l,p.1<C.lo+o.n/\(dW C o p.1).isSome=true)->i<C.lo+o.n->
 get C (p4 C o l) i=(match fg l i with
  | some x=>x
  | none=>get C o i)
 | [],o,i,_,_,_,_=>rfl
 | p::l,o,i,hl,hnd,hp,hi=>by
   obtain⟨hp1,hp2⟩:=hp p List.mem_cons_self;simp only[List.map_cons,List.nodup_cons]at hnd;rw[p4,zR (mY hl) hnd.2 (λq hq=>by rw[tR,gZ qp];exact hp q (List.mem_cons_of_mem _ hq)) (by rw[tR];exact hi)];rw[fg];by_cases e:p.1=i
   . have hnone:fg l i=none:=by
      cases hx:fg l i with
      | none=>rfl
      | some x=>exact absurd (e▸eV.1 (by rw[hx];rfl)) hnd.1
     rw[hnone,gb e,cond_true];simp only;rw[vZ hl hp1 hi hp2,if_pos e.symm]
   . rw[g7 e,cond_false];cases hx:fg l i with
     | some x=>rfl
     | none=>
       simp only;rw[vZ hl hp1 hi hp2,if_neg (Ne.symm e)]
theorem F4{C:bg}:∀{l:List (Nat×aE)} {o:aC},(p4 C o l).n=o.n/\(p4 C o l).le.map (·.1)=o.le.map (·.1)/\(o.os.length=o.n->(p4 C o l).os.length=(p4 C o l).n)
 | [],o=>⟨rfl,rfl,λh=>h⟩
 | p::l,o=>by
   obtain⟨a,b,c⟩:=F4 (C:=C) (l:=l) (o:=eF C o p.1 p.2);exact⟨a.trans tR,b.trans qp,λh=>c (mY h)⟩
def zW(tmps:Array Value):ResultVar->Sem Value
 | .tmp t=>pure (tmps.getD t undef)
 | .cell a t=>do loadVar t (<-asAddr (tmps.getD a undef))
theorem DR(fn:Func)(tmps:Array Value):results fn tmps=(do
 let vs <-fn.results.mapM (zW tmps)
 pure (if h:vs.size=1 then vs[0]else .tuple vs)):=by
 unfold results;have:(λx=>(match x with|.tmp t=>pure (tmps.getD t undef)|.cell a t=>(do loadVar t (<-asAddr (tmps.getD a undef))):Sem Value))=zW tmps:=by
  funext x;cases x<;>rfl
 rw[<-this];rfl
section
variable{P:Program}{T:fb}(hT:fF P T){cfg:cG}{code:bg->Code->St->Option (AX×St)}(hcode:wI P cfg code)
include hT
theorem oa{C:bg}{D:Nat->Prop}{m:Nat->bq}{st:St}{a:Act}{w:World}(hi:dV cfg D m C st.o w)(ht:TR D m st a):∀{l:List ResultVar} {vs:List AV},Cz T C st l=some vs->
 (l.mapM (zW a.tmps)).run P w=.ok (ap m vs) w/\fN D m vs
 | [],vs,h=>by cases h;exact⟨by simp[ap],fH⟩
 | .tmp t::rest,vs,h=>by
   simp only[Cz,ai,Option.some.injEq]at h;obtain⟨vs',hvs,rfl⟩:=h;obtain⟨h1,h2⟩:=oa hi ht hvs;refine⟨?_,ct.2 ⟨ht.okt t,h2⟩⟩;simp only[List.mapM_cons,zW,Sem.run_bind,Sem.run_pure,Result.andThen_ok,h1,ht.at' t,ap]
 | .cell b t::rest,vs,h=>by
   simp only[Cz,ai,Option.some.injEq]at h;obtain⟨v,hv,vs',hvs,rfl⟩:=h;obtain⟨h1,h2⟩:=oa hi ht hvs;obtain⟨ad,hc,hr,hok⟩:=zN hT hi (ht.okt b) hv;refine⟨?_,ct.2 ⟨hok,h2⟩⟩;have ha:(asAddr (aj m (st.ts.get b))).run P w=.ok ad w:=by rw[hc];rfl
   simp only[List.mapM_cons,zW,Sem.run_bind,Sem.run_pure,Result.andThen_ok,ht.at' b,ha,hr,h1,ap]
theorem wW{st:St}{a:Act}(hi:dV cfg D m C st.o w)(ht:TR D m st a){vs:List AV}(h:Cz T C st fn.results.toList=some vs) :
 (results fn a.tmps).run P w=.ok (aj m (wZ vs)) w/\db D m (wZ vs):=by
 obtain⟨h1,h2⟩:=oa hT hi ht h;have hm:(fn.results.mapM (zW a.tmps)).run P w=.ok (ap m vs).toArray w:=by
  rw[Array.mapM_eq_mapM_toList,Sem.run_map,h1];rfl
 refine⟨?_,?_⟩
 . rw[DR,Sem.run_bind,hm,Result.andThen_ok,Sem.run_pure];cases vs with
   | nil=>simp[ap,wZ,aj]
   | cons v vs=>
     cases vs with
     | nil=>simp[ap,wZ]
     | cons u us=>simp[ap,wZ,aj]
 . cases vs with
   | nil=>exact fV.2 h2
   | cons v vs=>
     cases vs with
     | nil=>exact(ct.1 h2).1
     | cons u us=>exact fV.2 h2
theorem CT{le:aC}(hlen:args.length<=1000)(hok:fN D m args) :
 TR D m (jH fn args le) { tmps:=(ap m args).toArray++Array.replicate (fn.ntmps-(ap m args).toArray.size) undef,defers:=[] }:=by
 have hcl:(ap m args).length=args.length:=b_;have hg:∀t,(jH fn args le).ts.get t=if t<args.length then args.getD t bo else bo:=λt=>by
  have:=Ts.get_ofList args 0 .nil t (by omega);simp only[jH,this,Nat.zero_le,Nat.zero_add,true_and,Nat.sub_zero,Ts.get_nil]
 refine⟨?_,λt=>?_,λt=>?_,rfl,λd hd=>(by cases hd),λi hi=>(by cases hi)⟩
 . simp only[jH,Array.size_append,List.size_toArray,Array.size_replicate,hcl];omega
 . rw[hg t];by_cases h:t<args.length
   . rw[if_pos h];have h1:(ap m args)[t]? = some (aj m (args.getD t bo)):=by
      rw[fZ];simp[h]
     simp only[Array.getD,Array.size_append,List.size_toArray,hcl];rw[dif_pos (by omega),Array.getInternal_eq_getElem,Array.getElem_append_left (by simp[hcl];exact h)];have h2:t<(ap m args).length:=by omega
     rw[List.getElem?_eq_getElem h2,Option.some.injEq]at h1;simpa using h1
   . rw[if_neg h,iW];simp only[Array.getD];split
     . simp_all
     . rfl
 . rw[hg t];by_cases h:t<args.length
   . rw[if_pos h];exact dK.1 hok _ (by simp[List.getD_eq_getElem?_getD,h])
   . rw[if_neg h];exact ik
omit hT in
theorem sP{fn:Func}{tmps:Array Value}{R:Ending->World->Prop}{C:bg}{D:Nat->Prop}{m:Nat->bq}:∀{ds:List Nat} {o o':aC} {w:World},qi C o ds=some o'->dV cfg D m C o w->(∀d∈ds,D d)->
 (∀w',dk cfg C D m o w D m o' w'->LeavesIn Fence.wide 0 P fn tmps R [] .returning w')->LeavesInM Fence.wide 0 P fn tmps R (gH m ds) .returning w
 | [],o,o',w,h,hi,hd,hk=>by
   cases h;exact hk w (dk.refl hi)
 | d::ds,o,o',w,h,hi,hd,hk=>by
   unfold qi at h;split at h
   . rename_i hx;have hdd:=hd d List.mem_cons_self;have hb:w.heap[(m d).blk]? = some (.deferred (some [])):=by
      have:=hi.obj d hdd;rw[gf hx]at this;exact this
     have hlt:(m d).blk<w.heap.size:=(Array.getElem?_eq_some_iff.1 hb).1;have he:dk cfg C D m o w D m (eF C o d .dead) (w.putObj (m d).blk (.deferred none)):=
      dk.put hi hdd hx rfl (by simp) (λk hk=>World.putObj_heap_other hk) trivial rfl rfl rfl
     exact⟨by simp,.inl ⟨(m d).blk,_,rfl,run_takeDeferred hb,sP h he.inv (λd' hd'=>hd d' (List.mem_cons_of_mem _ hd')) λw' hw'=>hk w' (he.trans hw')⟩⟩
   . cases h
include hcode
theorem rG(hb:bh T f=some (fn,c)){o0:aC}{r:AV×aC}(h:lq T code C fn c args o0=some r)
 (hi:dV cfg D m C o0 w) (hok:fN D m args) {R:Value->World->Prop} (hR:∀D' m' w',db D' m' r.1->dk cfg C D m o0 w D' m' r.2 w'->R (aj m' r.1) w'):(callFunc f (ap m args).toArray).run P w=.ok (.enter f (ap m args).toArray) w/\Calls P f (ap m args).toArray w λe w'=>∃v,e=.returned v/\R v w':=by
 simp only[bh,ai,Option.some.injEq,Prod.mk.injEq]at hb;obtain⟨fn',hfn,c',hbody,rfl,rfl⟩:=hb;obtain⟨hf,hname⟩:=hT.fn f fn' hfn;obtain⟨hlen,x,o,vs,hx,hne,hmk,hres,rfl⟩:=tT h;refine⟨?_,?_⟩
 . simp[callFunc,hf,hname,hbody]
 . refine callsIn_wide.1 (callsIn_of_wp_marks (n:=0) hf hbody trivial ?_);refine hcode _ _ _ _ hx D m _ w hi (CT hT hlen hok) _ λD' m' a' w' ht he=>?_;have this:LeavesInM Fence.wide 0 P fn' a'.tmps (λe w''=>∃v,e=.returned v/\R v w'') a'.defers .returning w':=by
    rw[ht.defers];refine sP hmk he.inv ht.dsD λw2 he2=>?_;have ht2:TR D' m' ⟨x.2.ts,x.2.tn,o,[],none⟩ ⟨a'.tmps,[]⟩:=⟨ht.size,ht.at',ht.okt,rfl,λd hd=>(by cases hd),λi hi=>(by cases hi)⟩;obtain⟨h1,h2⟩:=wW hT he2.inv ht2 hres;exact⟨_,h1,_,rfl,hR D' m' w2 h2 (he.trans he2)⟩
   cases hxe:x.1 with
   | normal=>exact this
   | ret=>exact this
   | exit id=>exact absurd hxe (hne id)
end
section
variable{P:Program}{T:fb}(hT:fF P T){cfg:cG}(hK:rI cfg){code:bg->Code->St->Option (AX×St)}(hcode:wI P cfg code)(hll:nj code)
include hT hK hcode hll
theorem xK(hb:bh T f=some (fn,c)){v:AV}(hbl:bw cfg.root.n args)(h:z_ T cfg code fn c args=some v)
 (hi:dV cfg D m C o w) (hok:fN D m args):jX P f (ap m args).toArray w λV w'=>V=aj m v/\db D m v/\dk cfg C D m o w D m o w'/\ni D w D m w':=by
 simp only[z_,ai,aA,Option.some.injEq]at h;obtain⟨r,he,hbe,rfl⟩:=h;have hg:∀id,id<cfg.root.n->get ⟨[(0,cfg.root)],cfg.root.n⟩ ⟨0,[],[]⟩ id=cfg.root.at id:=λid hid=>by
  rw[get,gy,jK (by omega:¬cfg.root.n<=id)];simp only[cond_false,fg,gy];rw[bv.2 (Nat.zero_le _),cond_true,Nat.sub_zero]
 have hi0:dV cfg (λid=>D id/\id<cfg.root.n) m ⟨[(0,cfg.root)],cfg.root.n⟩ ⟨0,[],[]⟩ w:=by
  refine⟨λid hd=>?_,λi j hdi hdj hij hl hr=>?_,λid hd=>hd.2,λg hg'=>?_,λid hid=>?_,λid hid=>(by cases hid),Nat.le_refl _,rfl⟩
  . rw[hg id hd.2,<-(hi.root id hd.2).2];refine(hi.obj id hd.1).narrow (by rw[(hi.root id hd.2).2];exact hK.loops id hd.2) λi hm hD=>⟨hD,?_⟩;rw[(hi.root id hd.2).2]at hm;exact hK.root id hd.2 i hm
  . rw[hg i hdi.2,<-(hi.root i hdi.2).2]at hl;rw[hg j hdj.2,<-(hi.root j hdj.2).2]at hr;exact hi.inj i j hdi.1 hdj.1 hij hl hr
  . obtain⟨a1,a2,a3⟩:=hi.glob g hg';exact⟨⟨a1,Nat.lt_of_lt_of_le hg' hK.G⟩,a2,a3⟩
  . exact⟨⟨(hi.root id hid).1,hid⟩,hg id hid⟩
 refine .inl (rG hT hcode hb he hi0 (λi hm=>⟨⟨(hok i hm).1,ti hbl i hm⟩,(hok i hm).2⟩) λD' m' w' hv hx=>?_);refine xG hi hx (λi hd=>hd.1) (λi hd hs=>?_) hv λi hm hd'=>?_
 . unfold dW at hs;rw[jK (by have:=hd.2;simp only;omega)]at hs;simp[fg]at hs
 . rcases hx.new i.1 hd' with hd|hge
   . exact hd
   . have:=lX 20 hbe i hm;simp only at hge;omega
theorem L0(hb:bh T f=some (fn,c)){ids:List Nat}(hids:∀i∈ids,D i){r:AV×aC}(h:zD T code C fn c args o (gC C o ids)=some r)
 (hi:dV cfg D m C o w) (hok:fN D m args) :
 jX P f (ap m args).toArray w λV w'=>∃D' m',V=aj m' r.1/\db D' m' r.1/\dk cfg C D m o w D' m' r.2 w'/\(ids=[]->ni D w D' m' w'):=by
 simp only[zD,ai,Option.some.injEq]at h;obtain⟨r1,he,rfl⟩:=h;have hlo:=hi.lo;have hleD:∀p∈gC C o ids,D p.1/\dW C o p.1=some p.2:=λp hp=>⟨hids _ (jh hp).1,(jh hp).2⟩;have hleg:∀(le:List (Nat×aE)) id x,fg le id=some x->∃p∈le,p=(id,x):=by
  intro le;induction le with
  | nil=>intro id x h;cases h
  | cons p le ih=>
    intro id x h;rw[fg]at h;by_cases e:p.1=id
    . grind
    . rw[g7 e,cond_false]at h;obtain⟨q,hq,e'⟩:=ih id x h;exact⟨q,List.mem_cons_of_mem _ hq,e'⟩
 have hC1:∀(o1:aC) id,id<C.lo+o.n->get ⟨(C.lo,o)::C.B,C.lo+o.n⟩ o1 id=(match fg o1.le id with
  | some x=>x
  | none=>get C o id):=λo1 id hid=>by
  rw[get,gy,jK (by simp only;omega)];rfl
 have hg:∀id,id<C.lo+o.n->get ⟨(C.lo,o)::C.B,C.lo+o.n⟩ ⟨0,[],gC C o ids⟩ id=get C o id:=λid hid=>by
  rw[hC1 _ id hid];simp only;cases hx:fg (gC C o ids) id with
  | none=>rfl
  | some x=>
    obtain⟨p,hp,e⟩:=hleg _ _ _ hx;have:=(hleD p hp).2;rw[e]at this;exact(gf this).symm
 have hown:∀id,D id->(dW ⟨(C.lo,o)::C.B,C.lo+o.n⟩ ⟨0,[],gC C o ids⟩ id).isSome->id∈ids/\(dW C o id).isSome=true:=λid hd hs=>by
  unfold dW at hs;rw[jK (by have:=hi.lt id hd;simp only;omega)]at hs;simp only[cond_false]at hs;obtain⟨p,hp,e⟩:=List.mem_map.1 (eV.1 hs);rw[<-e];exact⟨(jh hp).1,by rw[(hleD p hp).2];rfl⟩
 have hi1:dV cfg D m ⟨(C.lo,o)::C.B,C.lo+o.n⟩ ⟨0,[],gC C o ids⟩ w:=by
  refine⟨λid hd=>?_,λi j hdi hdj hij hl hr=>?_,λid hd=>hi.lt id hd,hi.glob,λid hid=>?_,λid hid=>?_,by simp only;omega,rfl⟩
  . rw[hg id (hi.lt id hd)];exact hi.obj id hd
  . rw[hg i (hi.lt i hdi)]at hl;rw[hg j (hi.lt j hdj)]at hr;exact hi.inj i j hdi hdj hij hl hr
  . rw[hg id (hi.lt id (hi.root id hid).1)];exact hi.root id hid
  . obtain⟨p,hp,e⟩:=List.mem_map.1 hid;obtain⟨hd,ho⟩:=hleD p hp;rw[<-e];refine⟨?_,hi.lt p.1 hd⟩;unfold dW at ho;by_cases hb':C.lo<=p.1
    . omega
    . rw[jK hb',cond_false]at ho;exact(hi.le p.1 (eV.1 (by rw[ho];rfl))).1
 refine .inl (rG hT hcode hb he hi1 hok λD' m' w' hv hx=>?_);obtain⟨hl1,hl2⟩:=py hll he rfl;simp only at hl2;have take:∀o2:aC,o2.n=r1.2.n+o.n->o2.le.map (·.1)=o.le.map (·.1)->o2.os.length=o2.n->(∀id,D' id->get C o2 id=get ⟨(C.lo,o)::C.B,C.lo+o.n⟩ r1.2 id)->
  dk cfg C D m o w D' m' o2 w':=by
  intro o2 hn hle hlen hget;have hi2:dV cfg D' m' C o2 w':=by
   refine⟨λid hd=>by rw[hget id hd];exact hx.inv.obj id hd,λi j hdi hdj hij hl hr=>?_,λid hd=>?_,hx.inv.glob,λid hid=>?_,λid hid=>?_,hi.lo,hlen⟩
   . rw[hget i hdi]at hl;rw[hget j hdj]at hr;exact hx.inv.inj i j hdi hdj hij hl hr
   . have:=hx.inv.lt id hd;simp only at this;omega
   . rw[hget id (hx.inv.root id hid).1];exact hx.inv.root id hid
   . rw[hle]at hid;exact hi.le id hid
  refine⟨hi2,hx.sub,hx.same,λi hd=>?_,by omega,hx.os,hx.tape,hx.output,hx.size,λk hk hn=>hx.frame k hk λi hd hs=>hn i hd (hown i hd hs).2,hle,λi hd hnd=>?_⟩
  . have:=hx.new i hd;simpa using this
  . rcases hx.fresh i hd hnd with hf|⟨j,hj,hoj,e⟩
    . omega
    . grind
 have mute:ids=[]->ni D w D' m' w':=λe=>by
  have hno:∀i,D i->(dW ⟨(C.lo,o)::C.B,C.lo+o.n⟩ ⟨0,[],gC C o ids⟩ i).isSome->False:=λi hd hs=>by
   grind
  exact⟨λk hk=>hx.frame k hk λi hd hs=>(hno i hd hs).elim,λi hd hnd=>(hx.fresh i hd hnd).resolve_right λ⟨j,hj,hoj,_⟩=>hno j hj hoj⟩
 have hgrown:∀id,D' id->fg r1.2.le id=none->get C (grown r1.2 o) id=get ⟨(C.lo,o)::C.B,C.lo+o.n⟩ r1.2 id:=λid hd hle=>by
  by_cases hid:id<C.lo+o.n
  . rw[sO hl1 hid,hC1 _ id hid,hle]
  . have hlt:=hx.inv.lt id hd;simp only at hlt;rw[zJ hl1 (by omega) (by omega),get,gy,bv.2 (by simp only;omega),cond_true]
 unfold A9;cases hle:gC C o ids with
 | nil=>
   rw[hle]at hl2;have hle2:r1.2.le=[]:=by simpa using hl2
   simp only;cases hbe:hJ (C.lo+o.n) 20 r1.1 with
   | true=>
     simp only[cond_true];obtain⟨h1,h2,h3,h4⟩:=xG hi hx (λi hd=>hd) (λi hd hs=>by
      unfold dW at hs;rw[jK (by have:=hi.lt i hd;simp only;omega),hle]at hs;simp[fg]at hs) hv λi hm hd'=>by
       rcases hx.new i.1 hd' with hd|hge
       . exact hd
       . have:=lX 20 hbe i hm;simp only at hge;omega
     exact⟨D,m,h1,h2,h3,λ_=>h4⟩
   | false=>
     simp only[cond_false];refine⟨D',m',rfl,hv,take _ rfl rfl (by simp[hl1,hi.len]) λid hd=>?_,mute⟩;exact hgrown id hd (by rw[hle2];rfl)
 | cons p ps=>
   simp only;obtain⟨b1,b2,b3⟩:=F4 (C:=C) (l:=r1.2.le) (o:=grown r1.2 o);have hgl:(grown r1.2 o).os.length=(grown r1.2 o).n:=by simp[grown,hl1,hi.len]
   refine⟨D',m',rfl,hv,take _ b1 b2 (b3 hgl) λid hd=>?_,mute⟩;have hlt:=hx.inv.lt id hd;simp only at hlt;have hnd:(r1.2.le.map (·.1)).Nodup:=by rw[hl2];exact kQ
   have hpp:∀q∈r1.2.le,q.1<C.lo+(grown r1.2 o).n/\(dW C (grown r1.2 o) q.1).isSome=true:=λq hq=>by
    have:q.1∈(gC C o ids).map (·.1):=by rw[<-hl2];exact List.mem_map.2 ⟨q,hq,rfl⟩
    obtain⟨q',hq',e⟩:=List.mem_map.1 this;obtain⟨hd',ho'⟩:=hleD q' hq';have hlt':=hi.lt q'.1 hd';rw[<-e];refine⟨by simp only[grown];omega,?_⟩;rw[show(dW C (grown r1.2 o) q'.1).isSome=(dW C o q'.1).isSome from gZ (o:=o) (o':=grown r1.2 o) rfl q'.1,ho'];rfl
   have:=zR (i:=id) hgl hnd hpp (by simp only[grown];omega);rw[show(⟨r1.2.n+o.n,r1.2.os++o.os,o.le⟩:aC)=grown r1.2 o from rfl,this];cases hx':fg r1.2.le id with
   | none=>exact hgrown id hd hx'
   | some y=>
     simp only;have hid:id<C.lo+o.n:=by
      have:id∈r1.2.le.map (·.1):=eV.1 (by rw[hx'];rfl);rw[hl2]at this;obtain⟨q',hq',e⟩:=List.mem_map.1 this;rw[<-e];exact hi.lt q'.1 (hleD q' hq').1
     rw[hC1 _ id hid,hx']
theorem yq{inl:Bool}{mu:Prop}(hmu:inl->¬mu)(horc:jF P cfg True λC f args o=>cfg.orc f C args o):jF P cfg mu (kN T cfg inl code):=by
 intro C f args o r h D m w hi hok;unfold kN at h;cases ho:cfg.orc f C args o with
 | some r'=>
   rw[ho]at h;cases h;exact(horc C f args o r ho D m w hi hok).mono λV w' ⟨D',m',h1,h2,h3,h4⟩=>⟨D',m',h1,h2,h3,λ_=>h4 trivial⟩
 | none=>
   rw[ho]at h;simp only[BV,ai]at h;obtain⟨⟨fn,c⟩,hb,h⟩:=h;cases hc:(cfg.canon f&&bw cfg.root.n args)with
   | true=>
     simp only[hc,cond_true,ai,Option.some.injEq]at h;obtain⟨v,hv,rfl⟩:=h;rw[Bool.and_eq_true]at hc;exact(xK hT hK hcode hll hb hc.2 hv hi hok).mono λV w' ⟨h1,h2,h3,h4⟩=>⟨D,m,h1,h2,h3,λ_ _=>h4⟩
   | false=>
     simp only[hc,cond_false,CZ]at h;cases hy:(inl&&Cx args)with
     | true=>
       rw[hy,cond_true]at h;rw[Bool.and_eq_true]at hy;exact .inl (rG hT hcode hb h hi hok λD' m' w' hv hx=>⟨D',m',rfl,hv,hx,λhm=>(hmu hy.1 hm).elim⟩)
     | false=>
       rw[hy,cond_false]at h;exact(L0 hT hK hcode hll hb (λi hm=>mg hok hm) h hi hok).mono λV w' ⟨D',m',h1,h2,h3,h4⟩=>⟨D',m',h1,h2,h3,λ_=>h4⟩
end
theorem Cr{D:Nat->Prop}{m:Nat->bq}{tn:Nat}:∀{ps:List Tmp} {vs:List AV} {tmps:Array Value} {ts ts':Ts},E5 tn ts ps vs=some ts'->tmps.size=tn->(∀t,tmps.getD t undef=aj m (ts.get t))->(∀t,db D m (ts.get t))->fN D m vs->
 (((ps.zip (ap m vs)).foldl (λtmps (p:Tmp×Value)=>tmps.setIfInBounds p.1 p.2) tmps).size=tn/\(∀t,((ps.zip (ap m vs)).foldl (λtmps (p:Tmp×Value)=>tmps.setIfInBounds p.1 p.2) tmps).getD t undef=aj m (ts'.get t))/\∀t,db D m (ts'.get t))/\ps.length=vs.length
 | [],[],tmps,ts,ts',h,h1,h2,h3,_=>by cases h;exact⟨⟨by simpa [ap]using h1,λt=>by simpa [ap]using h2 t,h3⟩,rfl⟩
 | p::ps,v::vs,tmps,ts,ts',h,h1,h2,h3,h4=>by
   simp only[E5,aA,Bool.and_eq_true,aS]at h;obtain⟨⟨hp1,hp2⟩,h⟩:=h;obtain⟨hv,hvs⟩:=ct.1 h4;have hd:p<2^20-1:=Nat.lt_of_lt_of_le hp2 (by decide);obtain⟨a,b⟩:=Cr (tmps:=tmps.setIfInBounds p (aj m v)) h (by simp[h1]) (λt=>by
    rw[Ts.get_set 20 _ _ _ _ hd];have:=h2 t;by_cases e:t=p
    . simp_all
    . rw[if_neg e,<-this];simp only[Array.getD,Array.size_setIfInBounds];split
      . rw[Array.getInternal_eq_getElem,Array.getInternal_eq_getElem,Array.getElem_setIfInBounds_ne (h:=λe'=>e e'.symm)]
      . rfl) (λt=>by
    rw[Ts.get_set 20 _ _ _ _ hd];split
    . exact hv
    . exact h3 t) hvs
   refine⟨?_,by simp[b]⟩;simpa [ap]using a
 | [],_::_,_,_,_,h,_,_,_,_=>by cases h
 | _::_,[],_,_,_,h,_,_,_,_=>by cases h
theorem Hl{α β γ:Type}(f:γ->α->β->γ)(xs:Array α)(ys:List β)(z:γ):(xs.zip ys.toArray).foldl (λc (x,y)=>f c x y) z=(xs.toList.zip ys).foldl (λc p=>f c p.1 p.2) z:=by
 rw[<-Array.foldl_toList];simp
section
variable{P:Program}{cfg:cG}{code:bg->Code->St->Option (AX×St)}(hcode:wI P cfg code)(hll:nj code)
include hcode hll
theorem Hu:CO P cfg False (qa code):=by
 intro C id args o r h;refine⟨λhf=>hf,λD m w hi hd hok=>?_⟩;simp only[qa,ai]at h;obtain⟨q,hq,ts,hts,x,hx,h⟩:=h;simp only[nZ,aA,ai]at h;obtain⟨hn,q1,hq1,hrd,x2,hx2,h⟩:=h;simp only[tu,ai,Option.some.injEq]at h;obtain⟨q2,hq2,rfl⟩:=h;have hown:=ie hq;obtain⟨fn,tmps,hb,hrel⟩:∃fn tmps,w.heap[(m id).blk]? = some (.loop (eJ m q fn tmps))/\j_ D m q fn tmps:=by
  have:=hi.obj id hd;rw[gf hown]at this;exact this
 obtain⟨⟨s1,s2,s3⟩,s4⟩:=Cr hts hrel.size hrel.at' hrel.okt hok;have hsz:(ap m args).toArray.size=(eJ m q fn tmps).params.size:=by
  have:(ap m args).length=args.length:=b_;simp only[List.size_toArray,this,eJ,<-s4,Array.length_toList]
 refine⟨_,_,_,_,run_yield hb hsz,?_⟩;refine roundIn_of_wpIn (F:=Fence.wide) trivial ?_;have hT0:TR D m ⟨ts,q.tn,o,[],some id⟩ { tmps:=((eJ m q fn tmps).params.zip (ap m args).toArray).foldl (λtmps (t,a)=>tmps.setIfInBounds t a) (eJ m q fn tmps).tmps,defers:=[] }:=by
  have e:=Hl (λ(c:Array Value)(t:Tmp)(a:Value)=>c.setIfInBounds t a) (eJ m q fn tmps).params (ap m args) (eJ m q fn tmps).tmps;refine⟨?_,λt=>?_,s3,rfl,λd hd=>(by cases hd),λi hi=>(by cases hi;exact hd)⟩
  . rw[e];exact s1
  . rw[e];exact s2 t
 refine hcode C q.assign ⟨ts,q.tn,o,[],some id⟩ x hx D m _ w hi hT0 _ λD1 m1 a1 w1 ht1 he1=>?_;have hx1:x.1=.normal:=by cases hxe:x.1<;>rw[hxe]at hn<;>first|rfl|cases hn
 rw[hx1];have hd1:=he1.sub id hd;have hm1:=he1.same id hd;have hown1:=ie hq1;obtain⟨fn1,tmps1,hb1,hrel1⟩:∃fn tmps,w1.heap[(m1 id).blk]? = some (.loop (eJ m1 q1 fn tmps))/\j_ D1 m1 q1 fn tmps:=by
  have:=he1.inv.obj id hd1;rw[gf hown1]at this;exact this
 have hlt1:=(Array.getElem?_eq_some_iff.1 hb1).1;have hst:(eJ m1 q1 fn1 tmps1).state=.ready:=by
  show q1.state=.ready;cases hs:q1.state<;>rw[hs]at hrd<;>first|rfl|cases hrd
 have hbr:=run_beginRound (P:=P) hb1 hst;have he2:dk cfg C D1 m1 x.2.o w1 D1 m1 (eF C x.2.o id (.loop ⟨.busy,q1.pend,q1.ts,q1.tn,q1.params,q1.assign,q1.body,q1.defs⟩)) (w1.putObj (m1 id).blk (.loop { eJ m1 q1 fn1 tmps1 with state:=.busy })):=
  dk.put he1.inv hd1 hown1 rfl (by simp) (λk hk=>World.putObj_heap_other hk) ⟨fn1,tmps1,World.putObj_heap_same hlt1,⟨hrel1.size,hrel1.at',hrel1.okt,hrel1.defs⟩⟩ rfl rfl rfl
 show ∃w₂,(Instr.beginRound (m id).blk).run P w1=.ok () w₂/\_;rw[<-hm1];refine⟨_,hbr,?_⟩;have hro:vL m1 x.2.ro=some (m1 id).blk:=by rw[(hll _ _ _ _ hx).2];rfl
 have hbody:=hcode C q.body ⟨x.2.ts,x.2.tn,eF C x.2.o id (.loop ⟨.busy,q1.pend,q1.ts,q1.tn,q1.params,q1.assign,q1.body,q1.defs⟩),x.2.ds,x.2.ro⟩ x2 hx2 D1 m1 a1 _ he2.inv ⟨ht1.size,ht1.at',ht1.okt,ht1.defers,ht1.dsD,ht1.roD⟩
  (roundPost P (m1 id).blk λe w'=>∃v,e=.returned v/\∃D' m',v=aj m' (.bool (qg x2.1))/\db D' m' (.bool (qg x2.1))/\dk cfg C D m o w D' m' (eF C x2.2.o id (.loop ⟨lI x2.1,mK x2.1,q2.ts,q2.tn,q2.params,q2.assign,q2.body,q2.defs⟩)) w')
 rw[hro]at hbody;refine hbody λD3 m3 a3 w3 ht3 he3=>?_;have hd3:=he3.sub id hd1;have hm3:=he3.same id hd1;have hown3:=ie hq2;obtain⟨fn3,tmps3,hb3,hrel3⟩:∃fn tmps,w3.heap[(m3 id).blk]? = some (.loop (eJ m3 q2 fn tmps))/\j_ D3 m3 q2 fn tmps:=by
  have:=he3.inv.obj id hd3;rw[gf hown3]at this;exact this
 have hlt3:=(Array.getElem?_eq_some_iff.1 hb3).1;have he4:dk cfg C D3 m3 x2.2.o w3 D3 m3 (eF C x2.2.o id (.loop ⟨lI x2.1,mK x2.1,q2.ts,q2.tn,q2.params,q2.assign,q2.body,q2.defs⟩)) (w3.putObj (m3 id).blk (.loop { eJ m3 q2 fn3 tmps3 with state:=lI x2.1,pending:=mK x2.1 })):=
  dk.put he3.inv hd3 hown3 rfl (by simp) (λk hk=>World.putObj_heap_other hk) ⟨fn3,tmps3,World.putObj_heap_same hlt3,⟨hrel3.size,hrel3.at',hrel3.okt,hrel3.defs⟩⟩ rfl rfl rfl
 have hall:=he1.trans (he2.trans (he3.trans he4));rw[<-hm3];have hend:∀j:Option Code,j=mK x2.1->∃v w',(Instr.endRound (m3 id).blk j).run P w3=.ok v w'/\∃v',Ending.returned v=.returned v'/\∃D' m',v'=aj m' (.bool (qg x2.1))/\db D' m' (.bool (qg x2.1))/\dk cfg C D m o w D' m' (eF C x2.2.o id (.loop ⟨lI x2.1,mK x2.1,q2.ts,q2.tn,q2.params,q2.assign,q2.body,q2.defs⟩)) w':=by
  rintro j rfl;have hbool:(mK x2.1).isNone=qg x2.1:=by cases x2.1<;>rfl
  have hstate:(if(mK x2.1).isNone then LoopState.ready else LoopState.done)=lI x2.1:=by cases x2.1<;>rfl
  have hr:=run_endRound (P:=P) (mK x2.1) hb3;rw[hbool]at hr;rw[hbool]at hstate;rw[hstate]at hr;exact⟨_,_,hr,_,rfl,D3,m3,by simp[aj],bQ (by simp[aD]),hall⟩
 cases hxe:x2.1 with
 | normal=>rw[hxe]at hend;exact hend none rfl
 | ret=>rw[hxe]at hend;exact hend (some .ret) rfl
 | exit j=>rw[hxe]at hend;exact hend (some (.exit j)) rfl
end
end Go.Ev
