import Derived.RangeFuncRecord
import Derived.Test.YtcffhjfdlflbgaaGreatDoorP09
set_option linter.all false
open Option.some renaming injEq->ν
open Bool renaming and_eq_true->ξ
set_option linter.all false
set_option maxRecDepth 100000
set_option maxHeartbeats 4000000
namespace Go.Ev
open Go Go.RowKit
variable{D:Nat->Prop}{m:Nat->bv}{C:bg}{w:World}{st:St}{a:Act}{fn:Func}{args:List AV}{f:FuncId}{c:Code}
def lH:AX->Exit
 | .a=>.normal
 | .b id=>.exit id
 | .c=>.ret
def y6(P:Program)(cfg:cL)(code:bg->Code->St->Option (AX×St)):Prop:=
 ∀C c st r,code C c st=some r->∀D m a w,dX cfg D m C st.o w->TR D m st a->∀Q:Exit->Act->World->Prop,
  (∀D' m' a' w',TR D' m' r.2 a'->dw cfg C D m st.o w D' m' r.2.o w'->Q (lH r.1) a' w')->c.wpIn (FR (wo m st.ro)) 0 P Q a w
def HL:cD->List (Nat×Nat)
 | .a cs _ _=>bw cs
 | .f es=>bw (es.map (·.1))++bw (es.map (·.2))
 | _=>[]
def yu:cD->Bool
 | .c _=>false
 | _=>true
structure qX(cfg:cL):Prop where
 a0:∀id,id<cfg.a0.n->yu (cfg.a0.at id)=true
 G:cfg.G<=cfg.a0.n
 b0:∀id,id<cfg.a0.n->∀i∈HL (cfg.a0.at id),i.1<cfg.a0.n
theorem fX.c0{D':Nat->Prop}{l:bv}{x:cD}{b:Option Obj}(h:fX D m l x b)(hl:yu x)(hi:∀i∈HL x,D i.1->D' i.1):fX D' m l x b:=by
 cases x with
 | b=>trivial
 | a cs rw g=>
   obtain⟨c,e,fz,hb,hc⟩:=h;exact⟨c,e,fz,hb,hc.d0,λi hm=>⟨hi i hm (hc.a0 i hm).1,(hc.a0 i hm).2⟩,hc.b0,hc.c0⟩
 | f es=>
   obtain⟨en,ck,hb,he,ho⟩:=h;refine⟨en,ck,hb,he,λe hm=>⟨λi hi'=>⟨hi i ?_ ((ho e hm).1 i hi').1,((ho e hm).1 i hi').2⟩,λi hi'=>⟨hi i ?_ ((ho e hm).2 i hi').1,((ho e hm).2 i hi').2⟩⟩⟩<;>grind [HL,ga]
 | d s pos=>exact h
 | c r=>grind [yu]
 | e=>exact h
theorem mD{lo:Nat}:∀(d:Nat) {v:AV},rD lo d v->∀i∈aC v,i.1<lo
 | 0,v,h=>by cases h
 | d+1,v,h=>by
   have key:∀vs:List AV,vs.all (rD lo d)->∀i∈bw vs,i.1<lo:=λvs hv i hi=>by
    obtain⟨v,hvm,hi⟩:=ga.1 hi;exact mD d (List.all_eq_true.1 hv v hvm) i hi
   unfold rD at h;cases v<;>simp only at h<;>intro i hi<;>simp only[aC]at hi
   case h=>grind [aU]
   case c=>grind [aU]
   case q=>grind [aU]
   case n=>grind [aU]
   case i=>
    grind
   case m=>exact mD d h i hi
   case g=>grind
   case d=>grind
   all_goals grind
theorem abm{lo:Nat}{vs:List AV}(h:bc lo vs):∀i∈bw vs,i.1<lo:=λi hi=>by
 obtain⟨v,hvm,hi⟩:=ga.1 hi;exact mD 20 (List.all_eq_true.1 h v hvm) i hi
theorem y9{cfg:cL}{C1:bg}{D1 D':Nat->Prop}{m':Nat->bv}{o o1 o2:aB}{w':World}(hi:dX cfg D m C o w)(hx:dw cfg C1 D1 m o1 w D' m' o2 w')(hD:∀i,D1 i->D i)
 (hn:∀i,D1 i->(dQ C1 o1 i).isSome->False) {v:AV} (hv:dh D' m' v) (hb:∀i∈aC v,D' i.1->D1 i.1):aj m' v=aj m v/\dh D m v/\dw cfg C D m o w D m o w'/\aa9 D w D m w':=by
 have hf:∀k,k<w.heap.size->w'.heap[k]? = w.heap[k]? := λk hk=>hx.f0 k hk λi hi' hs=>(hn i hi' hs).elim;have hsame:∀i∈aC v,m' i.1=m i.1:=λi hm=>hx.a0 i.1 (hb i hm (hv i hm).1);refine⟨ja v hsame,λi hm=>⟨hD _ (hb i hm (hv i hm).1),by rw[<-hsame i hm];exact(hv i hm).2⟩,?_,hf,λi h1 h2=>absurd h1 h2⟩;exact⟨hi.d0 λj hj hl=>hf _ ((hi.a0 j hj).a0 hl),λ_ h=>h,λ_ _=>rfl,λ_ h=>.inl h,Nat.le_refl _,hx.os,hx.j0,hx.c0,hx.i0,λk hk _=>hf k hk,rfl,λi h1 h2=>absurd h1 h2⟩
theorem Au{C:bg}:∀{l:List (Nat×cD)} {o:aB} {i:Nat},o.os.length=o.n->(l.map (·.1)).Nodup->(∀p∈l,p.1<C.lo+o.n/\(dQ C o p.1).isSome=true)->i<C.lo+o.n->
 get C (p8 C o l) i=(match fp l i with
  | some x=>x
  | none=>get C o i)
 | [],o,i,_,_,_,_=>rfl
 | p::l,o,i,hl,hnd,hp,hi=>by
   obtain⟨hp1,hp2⟩:=hp p List.mem_cons_self;simp only[List.map_cons,List.nodup_cons]at hnd;rw[p8,Au (aa4 hl) hnd.2 (λq hq=>by grind [vJ,ig,qM]) (by rw[vJ];omega)];grind [fp,eY,wZ,ic]
theorem F7{C:bg}:∀{l:List (Nat×cD)} {o:aB},(p8 C o l).n=o.n/\(p8 C o l).le.map (·.1)=o.le.map (·.1)/\(o.os.length=o.n->(p8 C o l).os.length=(p8 C o l).n)
 | [],o=>⟨rfl,rfl,λh=>h⟩
 | p::l,o=>by
   obtain⟨a,b,c⟩:=F7 (C:=C) (l:=l) (o:=kV C o p.1 p.2);exact⟨a.trans vJ,b.trans qM,λh=>c (aa4 h)⟩
def AD(tmps:Array Value):ResultVar->Sem Value
 | .tmp t=>pure (tmps.getD t undef)
 | .cell a t=>do loadVar t (<-asAddr (tmps.getD a undef))
theorem Fq(fn:Func)(tmps:Array Value):results fn tmps=(do
 let vs <-fn.results.mapM (AD tmps)
 pure (if h:vs.size=1 then vs[0]else .tuple vs)):=by
 rfl
section
variable{P:Program}{T:fm}(hT:fH P T){cfg:cL}{code:bg->Code->St->Option (AX×St)}(hcode:y6 P cfg code)
include hT
theorem oD{C:bg}{D:Nat->Prop}{m:Nat->bv}{st:St}{a:Act}{w:World}(hi:dX cfg D m C st.o w)(ht:TR D m st a):∀{l:List ResultVar} {vs:List AV},DK T C st l=some vs->
 (l.mapM (AD a.tmps)).run P w=.ok (aD m vs) w/\fM D m vs
 | [],vs,h=>by cases h;simp[aD,fQ]
 | .tmp t::rest,vs,h=>by
   simp only[DK,ag,ν]at h;obtain⟨vs',hvs,rfl⟩:=h;obtain⟨h1,h2⟩:=oD hi ht hvs;refine⟨?_,fE.2 ⟨ht.d0 t,h2⟩⟩;simp only[List.mapM_cons,AD,Sem.run_bind,Sem.run_pure,Result.andThen_ok,h1,ht.c0 t,aD]
 | .cell b t::rest,vs,h=>by
   simp only[DK,ag,ν]at h;obtain⟨v,hv,vs',hvs,rfl⟩:=h;obtain⟨h1,h2⟩:=oD hi ht hvs;obtain⟨ad,hc,hr,hok⟩:=AB hT hi (ht.d0 b) hv;refine⟨?_,fE.2 ⟨hok,h2⟩⟩;have ha:(asAddr (aj m (st.ts.b0 b))).run P w=.ok ad w:=by rw[hc];rfl
   simp only[List.mapM_cons,AD,Sem.run_bind,Sem.run_pure,Result.andThen_ok,ht.c0 b,ha,hr,h1,aD]
theorem xw(hi:dX cfg D m C st.o w)(ht:TR D m st a){vs:List AV}(h:DK T C st fn.results.toList=some vs) :
 (results fn a.tmps).run P w=.ok (aj m (w_ vs)) w/\dh D m (w_ vs):=by
 obtain⟨h1,h2⟩:=oD hT hi ht h;have hm:(fn.results.mapM (AD a.tmps)).run P w=.ok (aD m vs).toArray w:=by
  simp_all [Array.mapM_eq_mapM_toList]
 refine⟨?_,?_⟩
 . rw[Fq,Sem.run_bind,hm,Result.andThen_ok,Sem.run_pure];cases vs with
   | nil=>rfl
   | cons v vs=>
     cases vs<;>grind [aD,w_,aj]
 . cases vs with
   | nil=>nofun
   | cons v vs=>
     cases vs with
     | nil=>exact(fE.1 h2).1
     | cons u us=>exact gh.2 h2
theorem CD{le:aB}(hlen:args.length<=1000)(hok:fM D m args) :
 TR D m (jS fn args le) { tmps:=(aD m args).toArray++Array.replicate (fn.ntmps-(aD m args).toArray.size) undef,defers:=[] }:=by
 have hcl:(aD m args).length=args.length:=b7;have hg:∀t,(jS fn args le).ts.b0 t=if t<args.length then args.getD t bt else bt:=λt=>by
  grind [Ts.l0,jS,Ts.g0]
 refine⟨?_,λt=>?_,λt=>?_,rfl,λd hd=>(by cases hd),λi hi=>(by cases hi)⟩
 . grind [jS]
 . rw[hg t];by_cases h:t<args.length
   . rw[if_pos h];have h1:(aD m args)[t]? = some (aj m (args.getD t bt)):=by
      rw[gi];grind
     grind [Array.getInternal_eq_getElem]
   simp_all [td,Array.getD]
 grind [df,iy]
omit hT in
theorem tQ{fn:Func}{tmps:Array Value}{R:Ending->World->Prop}{C:bg}{D:Nat->Prop}{m:Nat->bv}:∀{ds:List Nat} {o o':aB} {w:World},qQ C o ds=some o'->dX cfg D m C o w->(∀d∈ds,D d)->
 (∀w',dw cfg C D m o w D m o' w'->LeavesIn Fence.wide 0 P fn tmps R [] .returning w')->LeavesInM Fence.wide 0 P fn tmps R (gJ m ds) .returning w
 | [],o,o',w,h,hi,hd,hk=>by
   cases h;exact hk w (dw.h0 hi)
 | d::ds,o,o',w,h,hi,hd,hk=>by
   unfold qQ at h;split at h
   . rename_i hx;have hdd:=hd d List.mem_cons_self;have hb:w.heap[(m d).a0]? = some (.deferred (some [])):=by
      have:=hi.a0 d hdd;rw[fI hx]at this;exact this
     have hlt:(m d).a0<w.heap.size:=(Array.getElem?_eq_some_iff.1 hb).1;have he:dw cfg C D m o w D m (kV C o d .b) (w.putObj (m d).a0 (.deferred none)):=
      dw.n0 hi hdd hx rfl θ (λk hk=>World.putObj_heap_other hk) trivial rfl rfl rfl
     exact⟨by simp,.inl ⟨(m d).a0,_,rfl,run_takeDeferred hb,tQ h he.b0 (λd' hd'=>hd d' (List.mem_cons_of_mem _ hd')) λw' hw'=>hk w' (he.d0 hw')⟩⟩
   grind
include hcode
theorem ab_(hb:aY T f=some (fn,c)){o0:aB}{r:AV×aB}(h:lI T code C fn c args o0=some r)
 (hi:dX cfg D m C o0 w) (hok:fM D m args) {R:Value->World->Prop} (hR:∀D' m' w',dh D' m' r.1->dw cfg C D m o0 w D' m' r.2 w'->R (aj m' r.1) w'):(callFunc f (aD m args).toArray).run P w=.ok (.enter f (aD m args).toArray) w/\Calls P f (aD m args).toArray w λe w'=>∃v,e=.returned v/\R v w':=by
 simp only[aY,ag,ν,Prod.mk.injEq]at hb;obtain⟨fn',hfn,c',hbody,rfl,rfl⟩:=hb;obtain⟨hf,hname⟩:=hT.fn f fn' hfn;obtain⟨hlen,x,o,vs,hx,hne,hmk,hres,rfl⟩:=vM h;refine⟨?_,?_⟩
 . simp_all [callFunc]
 . refine callsIn_wide.1 (callsIn_of_wp_marks (n:=0) hf hbody trivial ?_);refine hcode _ _ _ _ hx D m _ w hi (CD hT hlen hok) _ λD' m' a' w' ht he=>?_;have this:LeavesInM Fence.wide 0 P fn' a'.tmps (λe w''=>∃v,e=.returned v/\R v w'') a'.defers .returning w':=by
    rw[ht.a0];refine tQ hmk he.b0 ht.e0 λw2 he2=>?_;have ht2:TR D' m' ⟨x.2.ts,x.2.tn,o,[],none⟩ ⟨a'.tmps,[]⟩:=⟨ht.b0,ht.c0,ht.d0,rfl,λd hd=>η,λi hi=>η⟩;obtain⟨h1,h2⟩:=xw hT he2.b0 ht2 hres;exact⟨_,h1,_,rfl,hR D' m' w2 h2 (he.d0 he2)⟩
   cases hxe:x.1 with
   | a=>exact this
   | c=>exact this
   | b id=>grind
end
section
variable{P:Program}{T:fm}(hT:fH P T){cfg:cL}(hK:qX cfg){code:bg->Code->St->Option (AX×St)}(hcode:y6 P cfg code)(hll:mQ code)
include hT hK hcode hll
theorem ac8(hb:aY T f=some (fn,c)){o:aB}{v:AV}(hbl:bc cfg.a0.n args)(h:An T cfg code fn c args=some v)
 (hi:dX cfg D m C o w) (hok:fM D m args):jV P f (aD m args).toArray w λV w'=>V=aj m v/\dh D m v/\dw cfg C D m o w D m o w'/\aa9 D w D m w':=by
 simp only[An,ag,aA,ν]at h;obtain⟨r,he,hbe,rfl⟩:=h;have hg:∀id,id<cfg.a0.n->get ⟨[(0,cfg.a0)],cfg.a0.n⟩ ⟨0,[],[]⟩ id=cfg.a0.at id:=λid hid=>by
  grind [get,gB,fp,eK]
 have hi0:dX cfg (λid=>D id/\id<cfg.a0.n) m ⟨[(0,cfg.a0)],cfg.a0.n⟩ ⟨0,[],[]⟩ w:=by
  refine⟨λid hd=>?_,λi j hdi hdj hij hl hr=>?_,λid hd=>hd.2,λg hg'=>?_,λid hid=>?_,λid hid=>η,Nat.le_refl _,rfl⟩
  . rw[hg id hd.2,<-(hi.b0 id hd.2).2];refine(hi.a0 id hd.1).c0 (by rw[(hi.b0 id hd.2).2];exact hK.a0 id hd.2) λi hm hD=>⟨hD,?_⟩;rw[(hi.b0 id hd.2).2]at hm;exact hK.b0 id hd.2 i hm
  . rw[hg i hdi.2,<-(hi.b0 i hdi.2).2]at hl;rw[hg j hdj.2,<-(hi.b0 j hdj.2).2]at hr;exact hi.inj i j hdi.1 hdj.1 hij hl hr
  . obtain⟨a1,a2,a3⟩:=hi.c0 g hg';exact⟨⟨a1,Nat.lt_of_lt_of_le hg' hK.G⟩,a2,a3⟩
  . exact⟨⟨(hi.b0 id hid).1,hid⟩,hg id hid⟩
 refine .inl (ab_ hT hcode hb he hi0 (λi hm=>⟨⟨(hok i hm).1,abm hbl i hm⟩,(hok i hm).2⟩) λD' m' w' hv hx=>?_);refine y9 hi hx (λi hd=>hd.1) (λi hd hs=>?_) hv λi hm hd'=>?_
 . grind [dQ,jT,fp]
 . rcases hx.l0 i.1 hd' with hd|hge
   . omega
   . have:=mD 20 hbe i hm;grind
theorem Jf(hb:aY T f=some (fn,c)){o:aB}{ids:List Nat}(hids:∀i∈ids,D i){r:AV×aB}(h:A9 T code C fn c args o (gy C o ids)=some r)
 (hi:dX cfg D m C o w) (hok:fM D m args) :
 jV P f (aD m args).toArray w λV w'=>∃D' m',V=aj m' r.1/\dh D' m' r.1/\dw cfg C D m o w D' m' r.2 w'/\(ids=[]->aa9 D w D' m' w'):=by
 simp only[A9,ag,ν]at h;obtain⟨r1,he,rfl⟩:=h;have hlo:=hi.lo;have hleD:∀p∈gy C o ids,D p.1/\dQ C o p.1=some p.2:=λp hp=>⟨hids _ (jg hp).1,(jg hp).2⟩;have hleg:∀(le:List (Nat×cD)) id x,fp le id=some x->∃p∈le,p=(id,x):=by
  intro le;induction le<;>grind [fp,ic]
 have hC1:∀(o1:aB) id,id<C.lo+o.n->get ⟨(C.lo,o)::C.B,C.lo+o.n⟩ o1 id=(match fp o1.le id with
  | some x=>x
  | none=>get C o id):=λo1 id hid=>by
  grind [get,gB,jT]
 have hg:∀id,id<C.lo+o.n->get ⟨(C.lo,o)::C.B,C.lo+o.n⟩ ⟨0,[],gy C o ids⟩ id=get C o id:=λid hid=>by
  grind [fI]
 have hown:∀id,D id->(dQ ⟨(C.lo,o)::C.B,C.lo+o.n⟩ ⟨0,[],gy C o ids⟩ id).isSome->id∈ids/\(dQ C o id).isSome=true:=λid hd hs=>by
  unfold dQ at hs;rw[jT (by have:=hi.lt id hd;grind)]at hs;simp only[cond_false]at hs;obtain⟨p,hp,e⟩:=List.mem_map.1 (eY.1 hs);grind [jg]
 have hi1:dX cfg D m ⟨(C.lo,o)::C.B,C.lo+o.n⟩ ⟨0,[],gy C o ids⟩ w:=by
  refine⟨λid hd=>?_,λi j hdi hdj hij hl hr=>?_,λid hd=>hi.lt id hd,hi.c0,λid hid=>?_,λid hid=>?_,by grind,rfl⟩
  . rw[hg id (hi.lt id hd)];exact hi.a0 id hd
  . rw[hg i (hi.lt i hdi)]at hl;rw[hg j (hi.lt j hdj)]at hr;exact hi.inj i j hdi hdj hij hl hr
  . rw[hg id (hi.lt id (hi.b0 id hid).1)];exact hi.b0 id hid
  . obtain⟨p,hp,e⟩:=List.mem_map.1 hid;obtain⟨hd,ho⟩:=hleD p hp;rw[<-e];refine⟨?_,hi.lt p.1 hd⟩;unfold dQ at ho;by_cases hb':C.lo<=p.1
    . omega
    . rw[jT hb',cond_false]at ho;exact(hi.le p.1 (eY.1 η)).1
 refine .inl (ab_ hT hcode hb he hi1 hok λD' m' w' hv hx=>?_);obtain⟨hl1,hl2⟩:=abs hll he rfl;simp only at hl2;have take:∀o2:aB,o2.n=r1.2.n+o.n->o2.le.map (·.1)=o.le.map (·.1)->o2.os.length=o2.n->(∀id,D' id->get C o2 id=get ⟨(C.lo,o)::C.B,C.lo+o.n⟩ r1.2 id)->
  dw cfg C D m o w D' m' o2 w':=by
  intro o2 hn hle hlen hget;have hi2:dX cfg D' m' C o2 w':=by
   refine⟨λid hd=>by rw[hget id hd];exact hx.b0.a0 id hd,λi j hdi hdj hij hl hr=>?_,λid hd=>?_,hx.b0.c0,λid hid=>?_,λid hid=>?_,hi.lo,hlen⟩
   . rw[hget i hdi]at hl;rw[hget j hdj]at hr;exact hx.b0.inj i j hdi hdj hij hl hr
   . have:=hx.b0.lt id hd;grind
   . rw[hget id (hx.b0.b0 id hid).1];exact hx.b0.b0 id hid
   . rw[hle]at hid;exact hi.le id hid
  refine⟨hi2,hx.g0,hx.a0,λi hd=>?_,by omega,hx.os,hx.j0,hx.c0,hx.i0,λk hk hn=>hx.f0 k hk λi hd hs=>hn i hd (hown i hd hs).2,hle,λi hd hnd=>?_⟩
  . have:=hx.l0 i hd;omega
  . rcases hx.e0 i hd hnd with hf|⟨j,hj,hoj,e⟩<;>grind
 have mute:ids=[]->aa9 D w D' m' w':=λe=>by
  have hno:∀i,D i->(dQ ⟨(C.lo,o)::C.B,C.lo+o.n⟩ ⟨0,[],gy C o ids⟩ i).isSome->False:=λi hd hs=>by
   grind
  exact⟨λk hk=>hx.f0 k hk λi hd hs=>(hno i hd hs).elim,λi hd hnd=>(hx.e0 i hd hnd).resolve_right λ⟨j,hj,hoj,_⟩=>hno j hj hoj⟩
 have hgrown:∀id,D' id->fp r1.2.le id=none->get C (grown r1.2 o) id=get ⟨(C.lo,o)::C.B,C.lo+o.n⟩ r1.2 id:=λid hd hle=>by
  by_cases hid:id<C.lo+o.n
  . grind [ta]
  . have hlt:=hx.b0.lt id hd;grind [AE,get,gB,eK]
 unfold Cg;cases hle:gy C o ids with
 | nil=>
   rw[hle]at hl2;have hle2:r1.2.le=[]:=by simpa using hl2
   simp only;cases hbe:rD (C.lo+o.n) 20 r1.1 with
   | true=>
     simp only[cond_true];obtain⟨h1,h2,h3,h4⟩:=y9 hi hx (λi hd=>hd) (λi hd hs=>by
      unfold dQ at hs;rw[jT (by have:=hi.lt i hd;simp only;omega),hle]at hs;simp[fp]at hs) hv λi hm hd'=>by
       rcases hx.l0 i.1 hd' with hd|hge
       . exact hd
       . have:=mD 20 hbe i hm;simp only at hge;omega
     exact⟨D,m,h1,h2,h3,λ_=>h4⟩
   | false=>
     simp only[cond_false];refine⟨D',m',rfl,hv,take _ rfl rfl (by simp[hl1,hi.e0]) λid hd=>?_,mute⟩;exact hgrown id hd (by rw[hle2];rfl)
 | cons p ps=>
   simp only;obtain⟨b1,b2,b3⟩:=F7 (C:=C) (l:=r1.2.le) (o:=grown r1.2 o);have hgl:(grown r1.2 o).os.length=(grown r1.2 o).n:=by simp[grown,hl1,hi.e0]
   refine⟨D',m',rfl,hv,take _ b1 b2 (b3 hgl) λid hd=>?_,mute⟩;have hlt:=hx.b0.lt id hd;simp only at hlt;have hnd:(r1.2.le.map (·.1)).Nodup:=by rw[hl2];exact aaz
   have hpp:∀q∈r1.2.le,q.1<C.lo+(grown r1.2 o).n/\(dQ C (grown r1.2 o) q.1).isSome=true:=λq hq=>by
    have:q.1∈(gy C o ids).map (·.1):=by rw[<-hl2];exact List.mem_map.2 ⟨q,hq,rfl⟩
    obtain⟨q',hq',e⟩:=List.mem_map.1 this;obtain⟨hd',ho'⟩:=hleD q' hq';have hlt':=hi.lt q'.1 hd';rw[<-e];refine⟨by simp only[grown];omega,?_⟩;rw[show(dQ C (grown r1.2 o) q'.1).isSome=(dQ C o q'.1).isSome from ig (o:=o) (o':=grown r1.2 o) rfl q'.1,ho'];rfl
   have:=Au (i:=id) hgl hnd hpp (by simp only[grown];omega);rw[show(⟨r1.2.n+o.n,r1.2.os++o.os,o.le⟩:aB)=grown r1.2 o from rfl,this];cases hx':fp r1.2.le id with
   | none=>exact hgrown id hd hx'
   | some y=>
     simp only;have hid:id<C.lo+o.n:=by
      have:id∈r1.2.le.map (·.1):=eY.1 (by rw[hx'];rfl);rw[hl2]at this;obtain⟨q',hq',e⟩:=List.mem_map.1 this;rw[<-e];exact hi.lt q'.1 (hleD q' hq').1
     rw[hC1 _ id hid,hx']
theorem yQ{inl:Bool}{mu:Prop}(hmu:inl->¬mu)(horc:jH P cfg True λC f args o=>cfg.c0 f C args o):jH P cfg mu (aaB T cfg inl code):=by
 intro C f args o r h D m w hi hok;unfold aaB at h;cases ho:cfg.c0 f C args o with
 | some r'=>
   rw[ho]at h;cases h;exact(horc C f args o r ho D m w hi hok).a0 λV w' ⟨D',m',h1,h2,h3,h4⟩=>⟨D',m',h1,h2,h3,λ_=>h4 trivial⟩
 | none=>
   rw[ho]at h;simp only[D6,ag]at h;obtain⟨⟨fn,c⟩,hb,h⟩:=h;cases hc:(cfg.d0 f&&bc cfg.a0.n args)with
   | true=>
     simp only[hc,cond_true,ag,ν]at h;obtain⟨v,hv,rfl⟩:=h;rw[ξ]at hc;exact(ac8 hT hK hcode hll hb hc.2 hv hi hok).a0 λV w' ⟨h1,h2,h3,h4⟩=>⟨D,m,h1,h2,h3,λ_ _=>h4⟩
   | false=>
     simp only[hc,cond_false,DZ]at h;cases hy:(inl&&Dx args)with
     | true=>
       rw[hy,cond_true]at h;rw[ξ]at hy;exact .inl (ab_ hT hcode hb h hi hok λD' m' w' hv hx=>⟨D',m',rfl,hv,hx,λhm=>(hmu hy.1 hm).elim⟩)
     | false=>
       rw[hy,cond_false]at h;exact(Jf hT hK hcode hll hb (λi hm=>nh hok hm) h hi hok).a0 λV w' ⟨D',m',h1,h2,h3,h4⟩=>⟨D',m',h1,h2,h3,λ_=>h4⟩
end
theorem CS{D:Nat->Prop}{m:Nat->bv}{tn:Nat}:∀{ps:List Tmp} {vs:List AV} {tmps:Array Value} {ts ts':Ts},Hp tn ts ps vs=some ts'->tmps.size=tn->(∀t,tmps.getD t undef=aj m (ts.b0 t))->(∀t,dh D m (ts.b0 t))->fM D m vs->
 (((ps.zip (aD m vs)).foldl (λtmps (p:Tmp×Value)=>tmps.setIfInBounds p.1 p.2) tmps).size=tn/\(∀t,((ps.zip (aD m vs)).foldl (λtmps (p:Tmp×Value)=>tmps.setIfInBounds p.1 p.2) tmps).getD t undef=aj m (ts'.b0 t))/\∀t,dh D m (ts'.b0 t))/\ps.length=vs.length
 | [],[],tmps,ts,ts',h,h1,h2,h3,_=>by cases h;simp_all
 | p::ps,v::vs,tmps,ts,ts',h,h1,h2,h3,h4=>by
   simp only[Hp,aA,ξ,aU]at h;obtain⟨⟨hp1,hp2⟩,h⟩:=h;obtain⟨hv,hvs⟩:=fE.1 h4;have hd:p<2^20-1:=Nat.lt_of_lt_of_le hp2 ζ;obtain⟨a,b⟩:=CS (tmps:=tmps.setIfInBounds p (aj m v)) h η (λt=>by
    grind [Ts.e0,Array.getInternal_eq_getElem]) (λt=>by
    grind [Ts.e0]) hvs
   simp_all [aD]
 | [],_::_,_,_,_,h,_,_,_,_=>by cases h
 | _::_,[],_,_,_,h,_,_,_,_=>by cases h
theorem HE{α β γ:Type}(f:γ->α->β->γ)(xs:Array α)(ys:List β)(z:γ):(xs.zip ys.toArray).foldl (λc (x,y)=>f c x y) z=(xs.toList.zip ys).foldl (λc p=>f c p.1 p.2) z:=by
 rw[<-Array.foldl_toList];simp
section
variable{P:Program}{cfg:cL}{code:bg->Code->St->Option (AX×St)}(hcode:y6 P cfg code)(hll:mQ code)
include hcode hll
theorem Id:CN P cfg False (qJ code):=by
 intro C id args o r h;refine⟨λhf=>hf,λD m w hi hd hok=>?_⟩;simp only[qJ,ag]at h;obtain⟨q,hq,ts,hts,x,hx,h⟩:=h;simp only[oO,aA,ag]at h;obtain⟨hn,q1,hq1,hrd,x2,hx2,h⟩:=h;simp only[u_,ag,ν]at h;obtain⟨q2,hq2,rfl⟩:=h;have hown:=im hq;obtain⟨fn,tmps,hb,hrel⟩:∃fn tmps,w.heap[(m id).a0]? = some (.loop (lR m q fn tmps))/\j_ D m q fn tmps:=by
  have:=hi.a0 id hd;rw[fI hown]at this;exact this
 obtain⟨⟨s1,s2,s3⟩,s4⟩:=CS hts hrel.b0 hrel.d0 hrel.c0 hok;have hsz:(aD m args).toArray.size=(lR m q fn tmps).params.size:=by
  grind [b7,lR]
 refine⟨_,_,_,_,run_yield hb hsz,?_⟩;refine roundIn_of_wpIn (F:=Fence.wide) trivial ?_;have hT0:TR D m ⟨ts,q.tn,o,[],some id⟩ { tmps:=((lR m q fn tmps).params.zip (aD m args).toArray).foldl (λtmps (t,a)=>tmps.setIfInBounds t a) (lR m q fn tmps).tmps,defers:=[] }:=by
  have e:=HE (λ(c:Array Value)(t:Tmp)(a:Value)=>c.setIfInBounds t a) (lR m q fn tmps).params (aD m args) (lR m q fn tmps).tmps;refine⟨?_,λt=>?_,s3,rfl,λd hd=>η,λi hi=>η⟩
  . rw[e];exact s1
  . rw[e];exact s2 t
 refine hcode C q.a0 ⟨ts,q.tn,o,[],some id⟩ x hx D m _ w hi hT0 _ λD1 m1 a1 w1 ht1 he1=>?_;have hx1:x.1=.a:=by cases hxe:x.1<;>rw[hxe]at hn<;>first|rfl|cases hn
 rw[hx1];have hd1:=he1.g0 id hd;have hm1:=he1.a0 id hd;have hown1:=im hq1;obtain⟨fn1,tmps1,hb1,hrel1⟩:∃fn tmps,w1.heap[(m1 id).a0]? = some (.loop (lR m1 q1 fn tmps))/\j_ D1 m1 q1 fn tmps:=by
  have:=he1.b0.a0 id hd1;rw[fI hown1]at this;exact this
 have hlt1:=(Array.getElem?_eq_some_iff.1 hb1).1;have hst:(lR m1 q1 fn1 tmps1).state=.ready:=by
  show q1.f0=.ready;cases hs:q1.f0<;>rw[hs]at hrd<;>first|rfl|cases hrd
 have hbr:=run_beginRound (P:=P) hb1 hst;have he2:dw cfg C D1 m1 x.2.o w1 D1 m1 (kV C x.2.o id (.c ⟨.busy,q1.e0,q1.ts,q1.tn,q1.b0,q1.a0,q1.c0,q1.d0⟩)) (w1.putObj (m1 id).a0 (.loop { lR m1 q1 fn1 tmps1 with state:=.busy })):=
  dw.n0 he1.b0 hd1 hown1 rfl θ (λk hk=>World.putObj_heap_other hk) ⟨fn1,tmps1,World.putObj_heap_same hlt1,⟨hrel1.b0,hrel1.d0,hrel1.c0,hrel1.a0⟩⟩ rfl rfl rfl
 show ∃w₂,(Instr.beginRound (m id).a0).run P w1=.ok () w₂/\_;rw[<-hm1];refine⟨_,hbr,?_⟩;have hro:wo m1 x.2.ro=some (m1 id).a0:=by rw[(hll _ _ _ _ hx).2];rfl
 have hbody:=hcode C q.c0 ⟨x.2.ts,x.2.tn,kV C x.2.o id (.c ⟨.busy,q1.e0,q1.ts,q1.tn,q1.b0,q1.a0,q1.c0,q1.d0⟩),x.2.ds,x.2.ro⟩ x2 hx2 D1 m1 a1 _ he2.b0 ⟨ht1.b0,ht1.c0,ht1.d0,ht1.a0,ht1.e0,ht1.f0⟩
  (roundPost P (m1 id).a0 λe w'=>∃v,e=.returned v/\∃D' m',v=aj m' (.b (qu x2.1))/\dh D' m' (.b (qu x2.1))/\dw cfg C D m o w D' m' (kV C x2.2.o id (.c ⟨lY x2.1,abg x2.1,q2.ts,q2.tn,q2.b0,q2.a0,q2.c0,q2.d0⟩)) w')
 rw[hro]at hbody;refine hbody λD3 m3 a3 w3 ht3 he3=>?_;have hd3:=he3.g0 id hd1;have hm3:=he3.a0 id hd1;have hown3:=im hq2;obtain⟨fn3,tmps3,hb3,hrel3⟩:∃fn tmps,w3.heap[(m3 id).a0]? = some (.loop (lR m3 q2 fn tmps))/\j_ D3 m3 q2 fn tmps:=by
  have:=he3.b0.a0 id hd3;rw[fI hown3]at this;exact this
 have hlt3:=(Array.getElem?_eq_some_iff.1 hb3).1;have he4:dw cfg C D3 m3 x2.2.o w3 D3 m3 (kV C x2.2.o id (.c ⟨lY x2.1,abg x2.1,q2.ts,q2.tn,q2.b0,q2.a0,q2.c0,q2.d0⟩)) (w3.putObj (m3 id).a0 (.loop { lR m3 q2 fn3 tmps3 with state:=lY x2.1,pending:=abg x2.1 })):=
  dw.n0 he3.b0 hd3 hown3 rfl θ (λk hk=>World.putObj_heap_other hk) ⟨fn3,tmps3,World.putObj_heap_same hlt3,⟨hrel3.b0,hrel3.d0,hrel3.c0,hrel3.a0⟩⟩ rfl rfl rfl
 have hall:=he1.d0 (he2.d0 (he3.d0 he4));rw[<-hm3];have hend:∀j:Option Code,j=abg x2.1->∃v w',(Instr.endRound (m3 id).a0 j).run P w3=.ok v w'/\∃v',Ending.returned v=.returned v'/\∃D' m',v'=aj m' (.b (qu x2.1))/\dh D' m' (.b (qu x2.1))/\dw cfg C D m o w D' m' (kV C x2.2.o id (.c ⟨lY x2.1,abg x2.1,q2.ts,q2.tn,q2.b0,q2.a0,q2.c0,q2.d0⟩)) w':=by
  rintro j rfl;have hbool:(abg x2.1).isNone=qu x2.1:=by cases x2.1<;>rfl
  have hstate:(if(abg x2.1).isNone then LoopState.ready else LoopState.done)=lY x2.1:=by cases x2.1<;>rfl
  grind [run_endRound,aj,ek,aC]
 cases hxe:x2.1 with
 | a=>rw[hxe]at hend;exact hend none rfl
 | c=>rw[hxe]at hend;exact hend (some .ret) rfl
 | b j=>rw[hxe]at hend;exact hend (some (.exit j)) rfl
end
section
variable{P:Program}{b:Frame}{a:Act}{k:List Item}{cs:List Frame}{w:World}{Q:Exit->Act->World->Prop}
theorem D_:step P (lone (b.atR a (.code (.scope c)::k)) cs w)=.next (lone (b.atR a (.code c::.inScope c::k)) cs w):=
 step_lone_go κ
theorem zx:step P (lone (b.atR a (.inScope c::k)) cs w)=.next (lone (b.atR a k) cs w):=
 step_lone_go κ
theorem jX{x:Option Nat}(h:c.wpIn (FR x) 0 P (Exit.noGoto Q) a w):(Code.scope c).wpIn (FR x) 0 P Q a w:=by
 intro b k cs hro hb hr;obtain⟨e,a₁,w₁,hq,harr⟩:=h b (.inScope c::k) cs hro hb hr;have h0:StepsIn (Machine.fenced P (FR x)) P (lone (b.atR a (.code (.scope c)::k)) cs w) (lone (b.atR a (.code c::.inScope c::k)) cs w):=.one (fenced_calm (fr:=b.atR a (.code (.scope c)::k)) hb hr rfl) D_;cases e with
 | normal=>exact⟨.normal,a₁,w₁,hq,h0.trans (StepsIn.trans harr (.one (fenced_calm (fr:=b.atR a₁ (.inScope c::k)) hb hr rfl) zx))⟩
 | exit id=>
   exact⟨.exit id,a₁,w₁,hq,λk' hk=>h0.trans (harr.1 k' (by grind [exitTo])),λhr' hk=>let⟨k₁,h1,h2⟩:=harr.2 hr' (by grind [exitTo]);⟨k₁,h1,h0.trans h2⟩⟩
 | goto l=>exact hq.elim
 | ret=>exact⟨_,a₁,w₁,hq,.of_steps h0 harr⟩
 | panic ch=>exact⟨_,a₁,w₁,hq,.of_steps h0 harr⟩
 | outgrown=>exact⟨_,a₁,w₁,hq,.of_steps h0 harr⟩
theorem pY{l:Nat}{r:Loop}(fn:FuncId)(tmps:Array Value)(ps:Array Tmp)(assign body:Code)(h:w.heap[l]? = some (.loop r)) :
 (Instr.enterLoop fn tmps ps assign body (some l)).run P w =
   .ok (w.heap.size,[]) (w.alloc (.loop { state:=.ready,pending:=none,fn,tmps,params:=ps,assign,body,defers:=r.defers })):=by
 simp_all [Instr.enterLoop,run_getLoop]
end
section
variable{P:Program}{T:fm}(hT:fH P T){cfg:cL}{code:bg->Code->St->Option (AX×St)}(hcode:y6 P cfg code)(hll:mQ code)
include hT hcode hll
theorem BH(hi:dX cfg D m C st.o w)(ht:TR D m st a){e:Nat×aB×List Nat}(h:aaS C st=some e)(fn:FuncId)(ps:Array Tmp)(assign body:Code) :
 ∃D1 m1 w1 mark,(Instr.enterLoop fn a.tmps ps assign body (wo m st.ro)).run P w=.ok ((m1 (e.2.1.b0 C)).a0,mark) w1/\D1 (e.2.1.b0 C)/\
  dw cfg C D m st.o w D1 m1 (e.2.1.a0 (.c ⟨.ready,none,st.ts,st.tn,ps,assign,body,e.1⟩)) w1/\mark++a.defers=gJ m1 e.2.2/\∀d∈e.2.2,D1 d:=by
 have lay:∀{D0:Nat->Prop} {m0:Nat->bv} {o0:aB} {w0:World} {d:Nat},dw cfg C D m st.o w D0 m0 o0 w0->D0 d->
  dw cfg C D m st.o w (xD D0 (C.lo+o0.n)) (AT m0 (C.lo+o0.n) ⟨w0.heap.size,0,0⟩) (o0.a0 (.c ⟨.ready,none,st.ts,st.tn,ps,assign,body,d⟩))
   (w0.alloc (.loop { state:=.ready,pending:=none,fn,tmps:=a.tmps,params:=ps,assign,body,defers:=(m0 d).a0 })):=by
  intro D0 m0 o0 w0 d hx hd;refine hx.d0 (dw.p0 hx.b0 θ (λk hk=>Below.heap_alloc _ _ k hk) (Nat.le_refl _) ?_ rfl rfl rfl);have ht0:=ht.g0 hx.g0 hx.a0;exact⟨fn,a.tmps,World.alloc_heap_new w0 _,⟨ht0.b0,ht0.c0,ht0.d0,hd⟩⟩
 unfold aaS at h;cases hro:st.ro with
 | none=>
   rw[hro]at h;cases h;have h1:dw cfg C D m st.o w (xD D (C.lo+st.o.n)) (AT m (C.lo+st.o.n) ⟨w.heap.size,0,0⟩) (st.o.a0 .e) (w.alloc (.deferred (some []))):=
    dw.p0 hi θ (λk hk=>Below.heap_alloc _ _ k hk) (Nat.le_refl _) (World.alloc_heap_new w _) rfl rfl rfl
   have hd1:xD D (C.lo+st.o.n) (st.o.b0 C):=.inr rfl;have h2:=lay h1 hd1;have hblk:(AT m (C.lo+st.o.n) ⟨w.heap.size,0,0⟩ (st.o.b0 C)).a0=w.heap.size:=by
    show(AT m (C.lo+st.o.n) ⟨w.heap.size,0,0⟩ (C.lo+st.o.n)).a0=_;rw[pN]
   rw[hblk]at h2;have hrun:=run_enterLoop_outer (P:=P) (w:=w) fn a.tmps ps assign body;refine⟨_,_,_,[{ target:=.collected w.heap.size,args:=#[] }],?_,.inr rfl,h2,?_,?_⟩
   . show(Instr.enterLoop fn a.tmps ps assign body none).run P w=_;rw[hrun];congr 2
     show w.heap.size+1=(AT _ (C.lo+(st.o.a0 .e).n) _ (C.lo+(st.o.a0 .e).n)).a0;rw[pN];simp
   . rw[ht.a0];have hs:gJ (AT (AT m (C.lo+st.o.n) ⟨w.heap.size,0,0⟩) (C.lo+(st.o.a0 .e).n) ⟨(w.alloc (.deferred (some []))).heap.size,0,0⟩) st.ds=gJ m st.ds:=iK ht.e0 λi hi'=>by
      have:=hi.lt i hi';grind [qE,aB.a0]
     show _::gJ m st.ds=_::gJ _ st.ds;rw[hs];congr 2
     show Target.collected w.heap.size=.collected (AT (AT m (C.lo+st.o.n) _) (C.lo+(st.o.a0 .e).n) _ (C.lo+st.o.n)).a0;grind [qE,aB.a0,pN]
   . intro d hd;rcases List.mem_cons.1 hd with rfl|hd
     . exact .inl (.inr rfl)
     . exact .inl (.inl (ht.e0 d hd))
 | some i=>
   rw[hro]at h;simp only[ag,ν]at h;obtain⟨q,hq,rfl⟩:=h;have hdi:=ht.f0 i hro;obtain⟨fn0,tmps0,hb,hrel⟩:∃fn tmps,w.heap[(m i).a0]? = some (.loop (lR m q fn tmps))/\j_ D m q fn tmps:=by
    have:=hi.a0 i hdi;rw[fI (im hq)]at this;exact this
   have h2:=lay (dw.h0 hi) hrel.a0;have hrun:=pY (P:=P) fn a.tmps ps assign body hb;refine⟨_,_,_,[],?_,.inr rfl,h2,?_,λd hd=>.inl (ht.e0 d hd)⟩
   . show(Instr.enterLoop fn a.tmps ps assign body (some (m i).a0)).run P w=_;rw[hrun];congr 2
     show w.heap.size=(AT _ (C.lo+st.o.n) _ (C.lo+st.o.n)).a0;rw[pN]
   . rw[ht.a0];show gJ m st.ds=gJ _ st.ds;exact(iK ht.e0 λi hi'=>by
      have:=hi.lt i hi';grind [qE]).symm
theorem Lj(hi:dX cfg D m C st.o w)(ht:TR D m st a){g:Operand}{ps:Array Tmp}{assign body:Code}{r:AX×St}(h:Bj g ps assign body T cfg code C st=some r)
 {Q:Exit->Act->World->Prop} (hq:∀D' m' a' w',TR D' m' r.2 a'->dw cfg C D m st.o w D' m' r.2.o w'->Q (lH r.1) a' w'):(Code.rangeFunc g ps assign body).wpIn (FR (wo m st.ro)) 0 P Q a w:=by
 simp only[Bj,ag]at h;obtain⟨gv,hgv,e,he,x,hx,h⟩:=h;simp only[xX,ag,aA,ν]at h;obtain⟨q,hq',hbusy,ax,hax,rfl⟩:=h;obtain⟨hev,hgok⟩:=mM hi ht hgv;refine wpIn_rangeFunc λfn _=>?_;obtain⟨D1,m1,w1,mark,hrun,hl1,hx1,hmk,hds⟩:=BH (P:=P) hT hcode hll hi ht he fn ps assign body;cases gv<;>simp only[yv,reduceCtorEq]at hx;rename_i f first captured
 rw[ag]at hx;obtain⟨fc,hfc,hx⟩:=hx;have hok1:fM D1 m1 (first++[.n (e.2.1.b0 C)]++captured):=by
  have h1:fM D m first/\fM D m captured:=⟨λi hm=>hgok i (by simp[aC,hm]),λi hm=>hgok i (by simp[aC,hm])⟩
  refine pi.2 ⟨pi.2 ⟨h1.1.a0 hx1.g0 hx1.a0,fE.2 ⟨λi hm=>?_,fQ⟩⟩,h1.2.a0 hx1.g0 hx1.a0⟩;grind [aC]
 obtain⟨fn',cc⟩:=fc;obtain⟨hent,hcalls⟩:=ab_ (P:=P) (cfg:=cfg) (R:=λV w'=>∃D' m',V=aj m' x.1/\dh D' m' x.1/\dw cfg C D1 m1 (e.2.1.a0 (.c ⟨.ready,none,st.ts,st.tn,ps,assign,body,e.1⟩)) w1 D' m' x.2 w') hT hcode hfc hx hx1.b0 hok1
  λD' m' w' hv hxx=>⟨D',m',rfl,hv,hxx⟩
 have hargs:(aD m1 first).toArray++#[Value.func (.yield (m1 (e.2.1.b0 C)).a0) #[] #[]]++(aD m1 captured).toArray=(aD m1 (first++[.n (e.2.1.b0 C)]++captured)).toArray:=by
  simp[mF,aD,aj]
 refine⟨(m1 (e.2.1.b0 C)).a0,mark,w1,{ target:=.fn (.func f) (aD m1 captured).toArray,args:=(aD m1 first).toArray++#[.func (.yield (m1 (e.2.1.b0 C)).a0) #[] #[]] },w1,f,(aD m1 (first++[.n (e.2.1.b0 C)]++captured)).toArray,w1,hrun,?_,λ_ _=>trivial,?_,λhk=>(by cases hk),?_⟩
 . have e1:aD m first=aD m1 first:=(yd (λi hm=>hgok i (by simp[aC,hm])) hx1.a0).symm
   have e2:aD m captured=aD m1 captured:=(yd (λi hm=>hgok i (by simp[aC,hm])) hx1.a0).symm;simp only[resolve,hev,aj,Deferred.ofValue,e1,e2];simp[go_sem]
 . grind [invoke]
 . refine CallsIn.mono (GA hcalls) ?_;rintro e' w3 ⟨v,rfl,D3,m3,rfl,hv3,hx3⟩;have hl3:=hx3.g0 _ hl1;have hm3:=hx3.a0 _ hl1;obtain⟨fn3,tmps3,hb3,hrel3⟩:∃fn tmps,w3.heap[(m3 (e.2.1.b0 C)).a0]? = some (.loop (lR m3 q fn tmps))/\j_ D3 m3 q fn tmps:=by
    have:=hx3.b0.a0 _ hl3;rw[fI (im hq')]at this;exact this
   have hlt3:=(Array.getElem?_eq_some_iff.1 hb3).1;have hnb:(lR m3 q fn3 tmps3).state≠.busy:=by
    show q.f0≠.busy;intro hs;rw[hs]at hbusy;cases hbusy
   have hend:=run_endLoop (P:=P) hb3 hnb;have he4:dw cfg C D3 m3 x.2 w3 D3 m3 (kV C x.2 (e.2.1.b0 C) (.c ⟨.exhausted,q.e0,q.ts,q.tn,q.b0,q.a0,q.c0,q.d0⟩)) (w3.putObj (m3 (e.2.1.b0 C)).a0 (.loop { lR m3 q fn3 tmps3 with state:=.exhausted })):=
    dw.n0 hx3.b0 hl3 (im hq') rfl θ (λk hk=>World.putObj_heap_other hk) ⟨fn3,tmps3,World.putObj_heap_same hlt3,⟨hrel3.b0,hrel3.d0,hrel3.c0,hrel3.a0⟩⟩ rfl rfl rfl
   generalize w3.putObj (m3 (e.2.1.b0 C)).a0 (.loop { lR m3 q fn3 tmps3 with state:=.exhausted })=w4 at hend he4;have hall:=hx1.d0 (hx3.d0 he4);have ht4:TR D3 m3 ⟨st.ts,st.tn,kV C x.2 (e.2.1.b0 C) (.c ⟨.exhausted,q.e0,q.ts,q.tn,q.b0,q.a0,q.c0,q.d0⟩),e.2.2,st.ro⟩ { a with defers:=mark++a.defers }:=by
    have h0:=(ht.g0 hx1.g0 hx1.a0).g0 hx3.g0 hx3.a0;refine⟨h0.b0,h0.c0,h0.d0,?_,λd hd=>hx3.g0 d (hds d hd),h0.f0⟩;show mark++a.defers=gJ m3 e.2.2;rw[hmk,iK hds hx3.a0]
   have hfin:=hq D3 m3 _ _ ht4 hall;show ∃jump w₄,(Instr.endLoop (m1 (e.2.1.b0 C)).a0).run P w3=.ok jump w₄/\_;rw[<-hm3];refine⟨_,_,hend,?_⟩;have hpend:(lR m3 q fn3 tmps3).pending=q.e0:=rfl;rw[hpend];unfold Hn at hax;split at hax
   . rename_i hp;cases hax;rw[hp];exact hfin
   . rename_i hp;cases hax;rw[hp];exact wpIn_ret hfin
   . rename_i id hp;cases hax;rw[hp];exact wpIn_exit hfin
   grind
end
section
variable{P:Program}{T:fm}(hT:fH P T)(hm:P.follows .mixedOrders){cfg:cL}(hK:qX cfg)(horc:jH P cfg True λC f args o=>cfg.c0 f C args o)(hof:b8 cfg λC f args o=>cfg.c0 f C args o)
include hT hm hK horc hof
theorem rv:∀n,y6 P cfg (eZ T cfg n)/\∀C b st r,eZ T cfg n C (.loop b) st=some r->∀D m a w,dX cfg D m C st.o w->TR D m st a->∀Q:Exit->Act->World->Prop,
 (∀D' m' a' w',TR D' m' r.2 a'->dw cfg C D m st.o w D' m' r.2.o w'->Q (lH r.1) a' w')->Code.roundsIn (FR (wo m st.ro)) 0 P b Q n a w
 | 0=>⟨λC c st r h=>(by cases h),λC b st r h=>(by cases h)⟩
 | n+1=>by
   obtain⟨ih,ihl⟩:=rv n;have ill:=px (T:=T) hof n;have frame:∀{C:bg} {c:Code} {st:St} {x:AX×St} {D D':Nat->Prop} {m m':Nat->bv} {a:Act} {w w':World},eZ T cfg n C c st=some x->TR D m st a->dw cfg C D m st.o w D' m' x.2.o w'->wo m' x.2.ro=wo m st.ro:=λhx ht he=>by
    rw[(ill _ _ _ _ hx).2,rh ht.f0 he.a0]
   have hloop:∀C b st r,eZ T cfg (n+1) C (.loop b) st=some r->∀D m a w,dX cfg D m C st.o w->TR D m st a->∀Q:Exit->Act->World->Prop,
    (∀D' m' a' w',TR D' m' r.2 a'->dw cfg C D m st.o w D' m' r.2.o w'->Q (lH r.1) a' w')->Code.roundsIn (FR (wo m st.ro)) 0 P b Q (n+1) a w:=by
    intro C b st r h D m a w hi ht Q hq;rw[eZ,fN,adD]at h;simp only[ag]at h;obtain⟨x,hx,h⟩:=h;rw[roundsIn_succ];refine ih C b st x hx D m a w hi ht _ λD' m' a' w' ht' he=>?_;unfold v_ at h;cases hxe:x.1 with
    | a=>
      rw[hxe]at h;have:=ihl C b x.2 r h D' m' a' w' he.b0 ht' Q λD2 m2 a2 w2 ht2 he2=>hq D2 m2 a2 w2 ht2 (he.d0 he2);rw[frame hx ht he]at this;exact this
    | b id=>rw[hxe]at h;cases h;rw[hxe]at hq;exact hq D' m' a' w' ht' he
    | c=>rw[hxe]at h;cases h;rw[hxe]at hq;exact hq D' m' a' w' ht' he
   refine⟨?_,hloop⟩;intro C c st r h D m a w hi ht Q hq;cases c with
   | loop b=>exact wpIn_loop_rounds (n+1) (hloop C b st r h D m a w hi ht Q hq)
   | skip=>rw[eZ,fN]at h;cases h;exact wpIn_skip (hq D m a w ht (dw.h0 hi))
   | label l=>rw[eZ,fN]at h;cases h;exact wpIn_label (hq D m a w ht (dw.h0 hi))
   | exit id=>rw[eZ,fN]at h;cases h;exact wpIn_exit (hq D m a w ht (dw.h0 hi))
   | ret=>rw[eZ,fN]at h;cases h;exact wpIn_ret (hq D m a w ht (dw.h0 hi))
   | seq c1 c2=>
     rw[eZ,fN,Nk]at h;simp only[ag]at h;obtain⟨x,hx,h⟩:=h;refine wpIn_seq (ih C c1 st x hx D m a w hi ht _ λD' m' a' w' ht' he=>?_);unfold v_ at h;cases hxe:x.1 with
     | a=>
       rw[hxe]at h;have:=ih C c2 x.2 r h D' m' a' w' he.b0 ht' Q λD2 m2 a2 w2 ht2 he2=>hq D2 m2 a2 w2 ht2 (he.d0 he2);rw[frame hx ht he]at this;exact this
     | b id=>rw[hxe]at h;cases h;rw[hxe]at hq;exact hq D' m' a' w' ht' he
     | c=>rw[hxe]at h;cases h;rw[hxe]at hq;exact hq D' m' a' w' ht' he
   | cond c c1 c2=>
     rw[eZ,fN,Ho]at h;simp only[ag]at h;obtain⟨v,hv,h⟩:=h;obtain⟨h1,_⟩:=mM hi ht hv;unfold Kl at h;split at h
     . exact wpIn_cond_true (by rw[h1];simp[aj]) (ih C c1 st r h D m a w hi ht Q hq)
     . exact wpIn_cond_false (by rw[h1];simp[aj]) (ih C c2 st r h D m a w hi ht Q hq)
     . cases h
   | block id b=>
     rw[eZ,fN,Bq]at h;simp only[ag,ν]at h;obtain⟨x,hx,rfl⟩:=h;refine wpIn_block (ih C b st x hx D m a w hi ht _ λD' m' a' w' ht' he=>?_);unfold lQ at hq;cases hxe:x.1 with
     | a=>rw[hxe]at hq;simp only at hq;rw[hxe]at hq;exact hq D' m' a' w' ht' he
     | c=>rw[hxe]at hq;simp only at hq;rw[hxe]at hq;exact hq D' m' a' w' ht' he
     | b j=>
       rw[hxe]at hq;simp only at hq;by_cases e:j=id
       . rw[rY e,cond_true]at hq;have:=hq D' m' a' w' ht' he;simpa [Exit.inBlock,e,lH]using this
       . rw[ic e,cond_false]at hq;rw[hxe]at hq;have:=hq D' m' a' w' ht' he;simpa [Exit.inBlock,e,lH]using this
   | scope b=>
     rw[eZ,fN,LJ]at h;refine jX (ih C b st r h D m a w hi ht _ λD' m' a' w' ht' he=>?_);have:=hq D' m' a' w' ht' he;cases hre:r.1<;>rw[hre]at this<;>exact this
   | region id ops draw=>
     rw[eZ,fN,W3]at h;simp only[ag,ν]at h;obtain⟨st',hs,rfl⟩:=h;exact Ik hT hm (yQ hT hK ih ill (λh=>by cases h) horc) (yH hof ill) (yQ hT hK ih ill (λ_ h=>h) horc) (Id ih ill) hi ht hs λD' m' a' w' ht' he=>hq D' m' a' w' ht' he
   | rangeFunc g ps assign body=>
     rw[eZ,fN]at h;exact Lj hT ih ill hi ht h hq
   | _=>cases h
theorem an3(n:Nat):jH P cfg True (aaB T cfg false (eZ T cfg n)):=yQ hT hK (rv hT hm hK horc hof n).1 (px hof n) (λh=>by grind) horc
end
end Go.Ev
