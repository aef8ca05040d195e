import Derived.Test.YtoghlpcacfnjbaaGreatDoorP17
set_option linter.all false
set_option maxRecDepth 100000
set_option maxHeartbeats 4000000
section
namespace Go.Ev
open Go Go.RowKit
variable{n kb:Nat}{b:Code}{st:St}{rel:List Nat}{vs vs':List AV}{o o':aC}
abbrev cz:Type:=Nat->Option (St->Tr (AX×St))
section
variable{R:Type}
abbrev xL(R:Type):Type:=fb->cG->yW->cz->Nat->nH R->bg->St->(AX×St->Tr R)->Tr R
def OB:xL R:=λ_ _ _ _ _ _ _ st K=>K (.normal,st)
def Zr(a b:Code):xL R:=λ_ _ _ _ _ code C st K=>code C a st λx=>rf (code C b) x K
def O0(c:Operand)(a b:Code):xL R:=λ_ cfg _ _ _ code C st K=>aU (e9 cfg.G st.ts c) (B9 (λc=>code C c st K) a b)
def BC:Code->Bool
 | .loop _=>true
 | _=>false
def FA(id:Nat)(b:Code)(code:nH R)(C:bg)(st:St)(K:AX×St->Tr R)(e:Option (St->Tr (AX×St))):Tr R:=match e with
 | some e=>(e st).then λr=>K (lx id r)
 | none=>code C b st λr=>K (lx id r)
def IE(id:Nat)(b:Code):xL R:=λ_ _ _ L _ code C st K=>bif BC b then FA id b code C st K (L id)else code C b st λr=>K (lx id r)
def Ub(b:Code):xL R:=λ_ _ _ _ _ code C st K=>code C b st λx=>rf (code C (.loop b)) x K
def QT(b:Code):xL R:=λ_ _ _ _ _ code C st K=>code C b st K
def V6(id:Nat):xL R:=λ_ _ _ _ _ _ _ st K=>K (.exit id,st)
def YS:xL R:=λ_ _ _ _ _ _ _ st K=>K (.ret,st)
def FO(ops:Array Oper)(draw:Bool):xL R:=λP cfg orcT _ n _ C st K=>
 (wm P cfg (rC P cfg orcT false (rV P cfg orcT n)) C (rC P cfg orcT true (rV P cfg orcT n)) ops draw st .ret).bind λst'=>K (.normal,st')
def TL:xL R:=λ_ _ _ _ _ _ _ _ _=>.fail
def Lj:Code->xL R
 | .skip=>OB
 | .label _=>OB
 | .seq a b=>Zr a b
 | .cond c a b=>O0 c a b
 | .block id b=>IE id b
 | .loop b=>Ub b
 | .scope b=>QT b
 | .exit id=>V6 id
 | .ret=>YS
 | .region _ ops draw=>FO ops draw
 | _=>TL
def xc(P:fb)(cfg:cG)(orcT:yW)(L:cz):Nat->nH R
 | 0,_,_,_,_=>.fail
 | n+1,C,c,st,K=>Lj c P cfg orcT L n (xc P cfg orcT L n) C st K
end
def qv(P:Program)(cfg:cG)(C:bg)(L:cz):Code->Prop
 | .seq a b=>qv P cfg C L a/\qv P cfg C L b
 | .cond _ a b=>qv P cfg C L a/\qv P cfg C L b
 | .block id b=>(BC b->∀e,L id=some e->∀st Q,(e st).wp Q->bO P cfg C b st Q)/\qv P cfg C L b
 | .loop b=>qv P cfg C L b
 | .scope b=>qv P cfg C L b
 | _=>True
section
variable{P:Program}{T:fb}{cfg:cG}(g:mE P T cfg){orcT:yW}(ho:A2 cfg orcT){L:cz}{C:bg}{R:Type}{Q:R->Prop}
include g ho
def Kp(P:Program)(cfg:cG)(C:bg)(n:Nat)(b:Code)(st:St)(Q:AX×St->Prop):Prop:=
 ∀D m a w,dV cfg D m C st.o w->TR D m st a->∀K:Exit->Act->World->Prop,
  (∀r,Q r->r.2.ro=st.ro->∀D' m' a' w',TR D' m' r.2 a'->dk cfg C D m st.o w D' m' r.2.o w'->K (lE r.1) a' w')->Code.roundsIn (FR (vL m st.ro)) 0 P b K n a w
omit g ho in
theorem GX{Q:AX×St->Prop}(h:bO P cfg C b st (pV (λs=>Kp P cfg C n b s Q) Q)):Kp P cfg C (n+1) b st Q:=by
 intro D m a w hi ht K hK;rw[roundsIn_succ];refine h D m a w hi ht _ λr hr hro D' m' a' w' ht' he=>?_;have fr:vL m' r.2.ro=vL m st.ro:=by rw[hro,qL ht.roD he.same]
 unfold pV at hr;cases hx:r.1 with
 | normal=>
   rw[hx]at hr;have:=hr D' m' a' w' he.inv ht' K λr2 hr2 hro2 D2 m2 a2 w2 ht2 he2=>hK r2 hr2 (hro2.trans hro) D2 m2 a2 w2 ht2 (he.trans he2);rw[fr]at this;exact this
 | exit id=>rw[hx]at hr;have:=hK r hr hro D' m' a' w' ht' he;rw[hx]at this;exact this
 | ret=>rw[hx]at hr;have:=hK r hr hro D' m' a' w' ht' he;rw[hx]at this;exact this
omit g ho in
theorem JE{Q:AX×St->Prop}(h:Kp P cfg C n b st Q):bO P cfg C (.loop b) st Q:=λD m a w hi ht K hK=>wpIn_loop_rounds n (h D m a w hi ht K hK)
theorem CE:∀n {c:Code} {st:St} {K:AX×St->Tr R},qv P cfg C L c->(xc T cfg orcT L n C c st K).wp Q->(bO P cfg C c st λx=>(K x).wp Q)/\∀b,c=.loop b->Kp P cfg C n b st λx=>(K x).wp Q
 | 0,c,st,K,hL,h=>h.elim
 | n+1,c,st,K,hL,h=>by
   have ih:=@CE n;unfold xc at h;have thenm:∀{b:Code} {x:AX×St} {K:AX×St->Tr R},qv P cfg C L b->(rf (xc T cfg orcT L n C b) x K).wp Q->pV (λs=>bO P cfg C b s λx=>(K x).wp Q) (λx=>(K x).wp Q) x:=by
    intro b x K hb h;unfold rf at h;unfold pV;cases hx:x.1 with
    | normal=>rw[hx]at h;exact(ih hb h).1
    | exit id=>rw[hx]at h;exact h
    | ret=>rw[hx]at h;exact h
   cases c<;>simp only[Lj]at h
   case loop b=>
    have hr:Kp P cfg C (n+1) b st λx=>(K x).wp Q:=by
     refine GX ((ih (c:=b) hL h).1.mono λx hx=>?_);unfold rf at hx;unfold pV;cases hxe:x.1 with
     | normal=>rw[hxe]at hx;exact(ih (c:=.loop b) hL hx).2 b rfl
     | exit id=>rw[hxe]at hx;exact hx
     | ret=>rw[hxe]at hx;exact hx
    refine⟨JE hr,λb' e=>?_⟩;cases e;exact hr
   all_goals refine⟨?_,λb e=>by cases e⟩
   case skip=>exact KX h
   case label=>exact HE h
   case exit=>exact Ly h
   case ret=>exact M8 h
   case seq a b=>exact M9 ((ih hL.1 h).1.mono λx hx=>thenm hL.2 hx)
   case cond c a b=>
    unfold O0 at h;cases hv:e9 cfg.G st.ts c with
    | none=>rw[hv]at h;exact h.elim
    | some v=>
      rw[hv]at h;have h:(B9 (λc=>xc T cfg orcT L n C c st K) a b v).wp Q:=h;unfold B9 at h;cases v<;>simp only at h<;>first|exact h.elim|skip
      rename_i d;refine IT hv (λe=>?_) (λe=>?_)
      . subst e;exact(ih hL.1 h).1
      . subst e;exact(ih hL.2 h).1
   case block id b=>
    unfold IE at h;refine H2 ?_;cases hb:BC b with
    | false=>rw[hb]at h;exact(ih hL.2 h).1
    | true=>
      rw[hb,cond_true]at h;unfold FA at h;cases he:L id with
      | none=>rw[he]at h;exact(ih hL.2 h).1
      | some e=>rw[he]at h;exact hL.1 hb e he st _ (Tr.wp_then h)
   case scope b=>exact He (ih (c:=b) hL h).1
   case region id ops draw=>
    unfold FO at h;obtain⟨st',hr,h⟩:=Tr.wp_bind h;obtain⟨st2,hs,h2⟩:=vB (rnd:=qa (eT T cfg n)) (lQ ho (lH ho n)) (lQ ho (lH ho n)) hr;cases h2;refine Kd g (n:=n+1) (r:=(.normal,st')) ?_ h;rw[eT,fJ,ry];simp only[hs,ob]
   all_goals exact h.elim
theorem vW{c:Code}{K:AX×St->Tr R}(hL:qv P cfg C L c)(h:(xc T cfg orcT L n C c st K).wp Q):bO P cfg C c st λx=>(K x).wp Q:=(CE g ho n hL h).1
end
def sE(J:Nat->Value):Nat->Ts->Ts
 | 0,t=>t
 | n+1,t=>sE J n (Ts.set 20 t n (.any (J n)))
def iS:List Nat->List AV->Ts->Ts
 | i::is,v::vs,t=>iS is vs (Ts.set 20 t i v)
 | _,_,t=>t
def sX(tn:Nat)(rel:List Nat)(vals:List AV)(J:Nat->Value)(o:aC):St:=⟨iS rel vals (sE J tn .nil),tn,o,[],none⟩
def jP(st:St):List Nat->List AV
 | []=>[]
 | i::is=>st.ts.get i::jP st is
def Od:List Nat->Bool
 | []=>true
 | _=>false
def V_:Option Nat->Bool
 | none=>true
 | _=>false
def Gi{R:Type}(tn:Nat)(rel:List Nat)(K:AX×List AV×aC->Tr R)(r:AX×St):Tr R:=bif Nat.beq r.2.tn tn&&Od r.2.ds then K (r.1,jP r.2 rel,r.2.o)else .fail
abbrev d9:Type:=List AV->aC->Option (Tr (AX×List AV×aC))
def eb(tn:Nat)(rel:List Nat)(vw:d9)(st:St):Tr (AX×St):=
 bif Nat.beq st.tn tn&&Od st.ds&&V_ st.ro then aU (vw (jP st rel) st.o) λt=>t.then λq=>.all λJ=>.ret (q.1,sX tn rel q.2.1 J q.2.2)else .fail
def cx(P:Program)(cfg:cG)(C:bg)(b:Code)(tn:Nat)(rel:List Nat)(vw:d9):Prop:=
 ∀vs o t Q,vw vs o=some t->t.wp Q->∀J,bO P cfg C (.loop b) (sX tn rel vs J o) λr=>∃ax vs' o' J',Q (ax,vs',o')/\r=(ax,sX tn rel vs' J' o')
theorem Gj{J:Nat->Value}:∀{n:Nat} {t:Ts} {i:Nat},n<1000000->(sE J n t).get i=if i<n then .any (J i)else t.get i
 | 0,t,i,_=>by simp[sE]
 | n+1,t,i,h=>by
   have hk:n<2^20-1:=Nat.lt_of_lt_of_le (by omega) (by decide:1000000<=2^20-1);rw[sE,Gj (by omega),Ts.get_set 20 _ _ _ _ hk];by_cases h1:i<n
   . grind
   . grind
theorem Fu{f:Nat->AV}:∀{rel:List Nat} {vs:List AV} {t:Ts} {i:Nat},vs.length=rel.length->(∀k,k<rel.length->vs.getD k bo=f (rel.getD k 0))->(∀k∈rel,k<1000000)->(iS rel vs t).get i=if i∈rel then f i else t.get i
 | [],vs,t,i,_,_,_=>by cases vs<;>simp[iS]
 | r::rel,[],t,i,h,_,_=>by simp at h
 | r::rel,v::vs,t,i,h,hf,hr=>by
   have hk:r<2^20-1:=Nat.lt_of_lt_of_le (hr r List.mem_cons_self) (by decide:1000000<=2^20-1);rw[iS,Fu (f:=f) (by simpa using h) (λk hk=>by simpa using hf (k+1) (by simpa using hk)) (λk hk=>hr k (List.mem_cons_of_mem _ hk)),Ts.get_set 20 _ _ _ _ hk];by_cases h1:i∈rel
   . grind
   . grind
theorem qe(st:St):∀rel:List Nat,jP st rel=rel.map st.ts.get
 | []=>rfl
 | i::is=>by simp[jP,qe st is]
theorem tv{n:Nat}:∀{l:List Nat},nt n l->∀k∈l,k<n
 | [],_,k,hk=>by cases hk
 | x::xs,h,k,hk=>by
   rw[nt,zAa,aS]at h;rcases List.mem_cons.1 hk with rfl|hk
   . exact h.1
   . exact tv h.2 k hk
section
variable{cfg:cG}{C:bg}
theorem Bq{k tn:Nat}(ht:tn<1000000)(hrel:nt tn rel)(h1:st.tn=tn)(h2:st.ds=[])(h3:st.ro=none) :
 Wk cfg C k st λs=>∃J,s=sX tn rel (jP st rel) J st.o:=by
 intro D m a w hi htr;have hr:∀k∈rel,k<tn:=tv hrel;have hget:∀i,(iS rel (jP st rel) (sE (λt=>aj m (st.ts.get t)) tn .nil)).get i=if i∈rel then st.ts.get i else if i<tn then .any (aj m (st.ts.get i))else bo:=λi=>by
  rw[Fu (f:=st.ts.get) (by rw[qe];simp) (λk hk=>by rw[qe];simp[List.getD_eq_getElem?_getD,hk]) (λk hk=>Nat.lt_trans (hr k hk) ht),Gj ht,Ts.get_nil]
 refine⟨sX tn rel (jP st rel) (λt=>aj m (st.ts.get t)) st.o,D,m,⟨_,rfl⟩,⟨by rw[htr.size,h1];rfl,λt=>?_,λt=>?_,by rw[htr.defers,h2];rfl,λd hd=>(by cases hd),λi hi=>(by cases hi)⟩,h3.symm,by rw[h3];rfl,hi,λ_ _ _ _ _ _ h=>h⟩
 . show a.tmps.getD t undef=aj m ((iS rel (jP st rel) (sE (λt=>aj m (st.ts.get t)) tn .nil)).get t);rw[hget t];split
   . exact htr.at' t
   . split
     . simp only[aj];exact htr.at' t
     . rename_i h;rw[iW];have hs:=htr.size;simp only[Array.getD];rw[dif_neg (by omega)]
 . show db D m ((iS rel (jP st rel) (sE (λt=>aj m (st.ts.get t)) tn .nil)).get t);rw[hget t];split
   . exact htr.okt t
   . split
     . exact bQ (by simp[aD])
     . exact ik
def VW(cfg:cG)(C:bg)(kb tn:Nat)(rel:List Nat)(vs:List AV)(o:aC)(vs':List AV)(o':aC):Prop:=∀J,Wk cfg C kb (sX tn rel vs J o) λs=>∃J',s=sX tn rel vs' J' o'
theorem VW.refl{tn:Nat}:VW cfg C kb tn rel vs o vs o:=λJ=>Wk.refl ⟨J,rfl⟩
theorem VW.of_eq{tn:Nat}(h1:vs=vs')(h2:o=o'):VW cfg C kb tn rel vs o vs' o':=by subst h1 h2;exact VW.refl
inductive qU:List AV->List AV->Prop
 | nil:qU [] []
 | same {v:AV} {vs vs':List AV}:qU vs vs'->qU (v::vs) (v::vs')
 | int {k:IntKind} {n:Int} {vs vs':List AV}:qU vs vs'->qU (.int k n::vs) (.any (.int k n)::vs')
 | bool {b:Bool} {vs vs':List AV}:qU vs vs'->qU (.bool b::vs) (.any (.bool b)::vs')
 | str {s:List UInt8} {vs vs':List AV}:qU vs vs'->qU (.str s::vs) (.any (.string ⟨⟨s⟩⟩)::vs')
 | any {v:AV} {c:Value} {vs vs':List AV}:(∀m,aj m v=c)->qU vs vs'->qU (v::vs) (.any c::vs')
theorem qU.ok{D:Nat->Prop}{m:Nat->bq}:∀{vs vs':List AV},qU vs vs'->vs.length=vs'.length/\∀i,aj m (vs'.getD i bo)=aj m (vs.getD i bo)/\(db D m (vs.getD i bo)->db D m (vs'.getD i bo)):=by
 intro vs vs' h;have step:∀{v v':AV} {vs vs':List AV},aj m v'=aj m v->(db D m v->db D m v')->(vs.length=vs'.length/\∀i,aj m (vs'.getD i bo)=aj m (vs.getD i bo)/\(db D m (vs.getD i bo)->db D m (vs'.getD i bo)))->((v::vs).length=(v'::vs').length/\∀i,aj m ((v'::vs').getD i bo)=aj m ((v::vs).getD i bo)/\(db D m ((v::vs).getD i bo)->db D m ((v'::vs').getD i bo))):=by
  intro v v' vs vs' h1 h2 h3;refine⟨by simp[h3.1],λi=>?_⟩;cases i with
  | zero=>exact⟨h1,h2⟩
  | succ i=>exact h3.2 i
 have nid:∀{c:Value},db D m (.any c):=bQ (by simp[aD]);induction h with
 | nil=>exact⟨rfl,λi=>⟨rfl,id⟩⟩
 | same _ ih=>exact step rfl id ih
 | int _ ih=>exact step (by simp[aj]) (λ_=>nid) ih
 | bool _ ih=>exact step (by simp[aj]) (λ_=>nid) ih
 | str _ ih=>exact step (by simp[aj]) (λ_=>nid) ih
 | any hc _ ih=>exact step (by rw[hc m];simp[aj]) (λ_=>nid) ih
theorem Gc{R:AV->AV->Prop}:∀{rel:List Nat} {vs vs':List AV} {t t':Ts},vs.length=vs'.length->(∀i,R (vs.getD i bo) (vs'.getD i bo))->(∀i,R (t.get i) (t'.get i))->(∀k∈rel,k<1000000)->∀i,R ((iS rel vs t).get i) ((iS rel vs' t').get i)
 | [],vs,vs',t,t',hl,hv,h,_,i=>by cases vs<;>cases vs'<;>exact h i
 | r::rel,[],[],t,t',hl,hv,h,_,i=>h i
 | r::rel,v::vs,v'::vs',t,t',hl,hv,h,hr,i=>by
   have hk:r<2^20-1:=Nat.lt_of_lt_of_le (hr r List.mem_cons_self) (by decide:1000000<=2^20-1);refine Gc (rel:=rel) (vs:=vs) (vs':=vs') (by simpa using hl) (λi=>hv (i+1)) (λi=>?_) (λk hk=>hr k (List.mem_cons_of_mem _ hk)) i;rw[Ts.get_set 20 _ _ _ _ hk,Ts.get_set 20 _ _ _ _ hk];split
   . exact hv 0
   . exact h i
 | r::rel,[],_::_,_,_,hl,_,_,_,_=>by cases hl
 | r::rel,_::_,[],_,_,hl,_,_,_,_=>by cases hl
theorem VW.any{tn:Nat}(h:qU vs vs')(hrel:nt 1000000 rel):VW cfg C kb tn rel vs o vs' o:=by
 intro J D m a w hi ht;obtain⟨h1,h2⟩:=h.ok (D:=D) (m:=m);have key:=Gc (R:=λv v'=>aj m v'=aj m v/\(db D m v->db D m v')) (rel:=rel) (t:=sE J tn .nil) (t':=sE J tn .nil) h1 h2 (λi=>⟨rfl,id⟩) (tv hrel);refine⟨sX tn rel vs' J o,D,m,⟨J,rfl⟩,⟨ht.size,λt=>?_,λt=>(key t).2 (ht.okt t),ht.defers,ht.dsD,ht.roD⟩,rfl,rfl,hi,λ_ _ _ _ _ _ h=>h⟩;exact(ht.at' t).trans (key t).1.symm
theorem v_{f:AV->Option AV}(hu:f bo=some bo){v v':AV}(hv:f v=some v'):∀{d:Nat} {t t':Ts} {i:Nat},wy f t=some t'->wy f (Ts.set d t i v)=some (Ts.set d t' i v')
 | 0,t,t',i,h=>h
 | d+1,t,t',i,h=>by
   have parts:f t.val=some t'.val/\wy f t.left=some t'.left/\wy f t.right=some t'.right:=by
    cases t with
    | nil=>cases h;exact⟨hu,rfl,rfl⟩
    | node x l r=>
      simp only[wy,ai,zAc]at h;obtain⟨x',hx,l',hl,r',hr,rfl⟩:=h;exact⟨hx,hl,hr⟩
   obtain⟨p1,p2,p3⟩:=parts;unfold Ts.set;cases Nat.beq i 0 with
   | true=>simp only[cond_true,wy,hv,p2,p3,ob]
   | false=>
     simp only[cond_false];cases Nat.beq (i%2) 1 with
     | true=>simp only[cond_true,wy,p1,v_ hu hv (d:=d) p2,p3,ob]
     | false=>simp only[cond_false,wy,p1,v_ hu hv (d:=d) p3,p2,ob]
theorem FL{f:AV->Option AV}(hu:f bo=some bo)(ha:∀v,f (.any v)=some (.any v)){J:Nat->Value}:∀{n:Nat} {t:Ts},wy f t=some t->wy f (sE J n t)=some (sE J n t)
 | 0,t,h=>h
 | n+1,t,h=>FL (n:=n) (t:=Ts.set 20 t n (.any (J n))) hu ha (v_ hu (ha (J n)) h)
theorem Fl{f:AV->Option AV}(hu:f bo=some bo):∀{rel:List Nat} {vs vs':List AV} {t t':Ts},xE f vs=some vs'->wy f t=some t'->wy f (iS rel vs t)=some (iS rel vs' t')
 | [],vs,vs',t,t',_,h=>by cases vs<;>cases vs'<;>exact h
 | r::rel,[],vs',t,t',hv,h=>by cases hv;exact h
 | r::rel,v::vs,vs',t,t',hv,h=>by
   simp only[xE,ai,zAc]at hv;obtain⟨v1,h1,vs1,h2,rfl⟩:=hv;exact Fl (rel:=rel) (vs:=vs) (vs':=vs1) hu h2 (v_ hu h1 h)
theorem VW.move(hK:rI cfg){tn:Nat}{sel:List Nat}(hlow:Ms C)(hkb:kb<=o.n)
 (hsel:∀s∈sel,kb<=s/\s<o.n) (hnd:sel.Nodup)
 (hle:∀p∈o.le,cR (C.lo+kb) p.2) (hle':o'.le=o.le) (hn:o'.n=kb+sel.length) (hlen:o'.os.length=o'.n)
 (hold:∀i,i<kb->o'.at i=o.at i/\cR (C.lo+kb) (o.at i))
 (hnew:∀t,t<sel.length->V4 (C.lo+kb) (ia C.lo kb sel) (o.at (sel.getD t 0)) (o'.at (kb+t)))
 (hvs:xE (kr (C.lo+kb) (ia C.lo kb sel) 20) vs=some vs'):VW cfg C kb tn rel vs o vs' o':=by
 intro J;have hts:wy (kr (C.lo+kb) (ia C.lo kb sel) 20) (sX tn rel vs J o).ts=some (iS rel vs' (sE J tn .nil)):=Fl (f:=kr (C.lo+kb) (ia C.lo kb sel) 20) (rel:=rel) rfl hvs (FL (f:=kr (C.lo+kb) (ia C.lo kb sel) 20) (n:=tn) (t:=.nil) rfl (λ_=>rfl) rfl);refine(pf hK (st:=sX tn rel vs J o) hlow hkb hsel hnd hle hle' hn hlen hold hnew hts (λd hd=>by cases hd) (λi hi=>by cases hi)).mono λs hs=>⟨J,?_⟩;rw[hs];rfl
end
section
variable{P:Program}{T:fb}{cfg:cG}(g:mE P T cfg){orcT:yW}(ho:A2 cfg orcT){L:cz}{C:bg}
include g ho
theorem HI{tn:Nat}(htn:tn<1000000)(hrel:nt tn rel)(hL:qv P cfg C L b){ι:Type}(vals:ι->List AV)(own:ι->aC)(μ:ι->Nat)(hkb:∀x,kb<=(own x).n){Q:AX×List AV×aC->Prop}
 (hr:∀x J,(xc T cfg orcT L n C b (sX tn rel (vals x) J (own x)) (Gi tn rel .ret)).wp λq=>match q.1 with
   | .normal=>∃y,μ y<μ x/\VW cfg C kb tn rel q.2.1 q.2.2 (vals y) (own y)
   | ax=>∃vs2 o2,VW cfg C kb tn rel q.2.1 q.2.2 vs2 o2/\Q (ax,vs2,o2)) {vs:List AV} {o:aC} (hk:o.n<=kb) (h0:∀J,Wk cfg C kb (sX tn rel vs J o) λs=>∃x J',s=sX tn rel (vals x) J' (own x)) (J:Nat->Value) :
 bO P cfg C (.loop b) (sX tn rel vs J o) λr=>∃ax vs' o' J',Q (ax,vs',o')/\r=(ax,sX tn rel vs' J' o'):=by
 have hnone:∀{r:AX×St} {s:St},r.2.ro=s.ro->s.ro=none->r.2.ro=none:=λh1 h2=>h1.trans h2;refine ID (k:=kb) (Q':=λr=>(∃vs2 o2,VW cfg C kb tn rel (jP r.2 rel) r.2.o vs2 o2/\Q (r.1,vs2,o2))/\r.2.tn=tn/\r.2.ds=[]/\r.2.ro=none) ?_ hk ?_
 . refine I7 (k:=kb) μ (λx s=>∃J',s=sX tn rel (vals x) J' (own x)) (h0 J) hk ?_;rintro x s ⟨J1,rfl⟩;have hs:=vW g ho hL (hr x J1);have hs2:bO P cfg C b (sX tn rel (vals x) J1 (own x)) λr=>r.2.ro=none/\(Gi tn rel Tr.ret r).wp λq=>match q.1 with
    | .normal=>∃y,μ y<μ x/\VW cfg C kb tn rel q.2.1 q.2.2 (vals y) (own y)
    | ax=>∃vs2 o2,VW cfg C kb tn rel q.2.1 q.2.2 vs2 o2/\Q (ax,vs2,o2):=λD m a w hi ht K hK=>hs D m a w hi ht K λr hq hro=>hK r ⟨hro,hq⟩ hro
   refine hs2.mono λr ⟨hro,hq⟩=>?_;unfold Gi at hq;cases hb:(Nat.beq r.2.tn tn&&Od r.2.ds)with
   | false=>rw[hb]at hq;exact hq.elim
   | true=>
     rw[hb,cond_true]at hq;rw[zAa,cO]at hb;have hds:r.2.ds=[]:=by
      have:=hb.2;cases hd:r.2.ds with
      | nil=>rfl
      | cons x xs=>rw[hd]at this;cases this
     simp only[Tr.wp]at hq;unfold pV;cases hx:r.1 with
     | normal=>
       rw[hx]at hq;obtain⟨y,hy,hv⟩:=hq;refine(Bq htn hrel hb.1 hds hro).trans λs=>?_;rintro⟨J2,rfl⟩;exact(hv J2).mono λs2 ⟨J3,e⟩=>⟨y,hy,J3,e⟩
     | exit id=>rw[hx]at hq;exact⟨by rw[hx];exact hq,hb.1,hds,hro⟩
     | ret=>rw[hx]at hq;exact⟨by rw[hx];exact hq,hb.1,hds,hro⟩
 . rintro r ⟨⟨vs2,o2,hv,hq⟩,h1,h2,h3⟩;refine(Bq htn hrel h1 h2 h3).trans λs=>?_;rintro⟨J2,rfl⟩;exact(hv J2).mono λs ⟨J3,e⟩=>⟨_,_,_,J3,hq,by rw[e]⟩
omit ho in
theorem b7{tn:Nat}{vw:d9}(htn:tn<1000000)(hrel:nt tn rel)(h:cx P cfg C b tn rel vw){Q:AX×St->Prop}(hw:(eb tn rel vw st).wp Q):bO P cfg C (.loop b) st Q:=by
 unfold eb at hw;cases hb:(Nat.beq st.tn tn&&Od st.ds&&V_ st.ro)with
 | false=>rw[hb]at hw;exact hw.elim
 | true=>
   rw[hb,cond_true]at hw;rw[zAa,zAa,cO]at hb;have hds:st.ds=[]:=by
    have:=hb.1.2;cases hd:st.ds with
    | nil=>rfl
    | cons x xs=>rw[hd]at this;cases this
   have hro:st.ro=none:=by
    have:=hb.2;cases hd:st.ro with
    | none=>rfl
    | some x=>rw[hd]at this;cases this
   cases hv:vw (jP st rel) st.o with
   | none=>rw[hv]at hw;exact hw.elim
   | some t=>
     rw[hv]at hw;have hw:=Tr.wp_then (t:=t) hw;refine Oo (k:=st.o.n) (Bq htn hrel hb.1.1 hds hro) (Nat.le_refl _) λs=>?_;rintro⟨J,rfl⟩;refine(h _ _ t _ hv hw J).mono ?_;rintro r ⟨ax,vs',o',J',hq,rfl⟩;exact hq J'
end
def bj:Code->List (Nat×Code)
 | .seq a b=>bj a++bj b
 | .cond _ a b=>bj a++bj b
 | .block id b=>match b with
   | .loop c=>(id,c)::bj c
   | b=>bj b
 | .loop b=>bj b
 | .scope b=>bj b
 | _=>[]
theorem lk{P:Program}{cfg:cG}{C:bg}{L:cz}:∀{c:Code},(∀p∈bj c,∀e,L p.1=some e->∀st Q,(e st).wp Q->bO P cfg C (.loop p.2) st Q)->qv P cfg C L c
 | .seq a b,h=>by
   simp only[bj,List.mem_append]at h;exact⟨lk λp hp=>h p (.inl hp),lk λp hp=>h p (.inr hp)⟩
 | .cond _ a b,h=>by
   simp only[bj,List.mem_append]at h;exact⟨lk λp hp=>h p (.inl hp),lk λp hp=>h p (.inr hp)⟩
 | .block id b,h=>by
   have hl:∀c,b=.loop c->qv P cfg C L (.block id b):=by
    rintro c rfl;simp only[bj]at h;exact⟨λ_ e he st Q hw=>h (id,c) List.mem_cons_self e he st Q hw,lk (c:=c) λp hp=>h p (List.mem_cons_of_mem _ hp)⟩
   cases b with
   | loop c=>exact hl c rfl
   | _=>exact⟨λhb=>(by cases hb),lk (by simpa only[bj]using h)⟩
 | .loop b,h=>lk (c:=b) (by simpa only[bj]using h)
 | .scope b,h=>lk (c:=b) (by simpa only[bj]using h)
 | .skip,_=>trivial
 | .region _ _ _,_=>trivial
 | .exit _,_=>trivial
 | .label _,_=>trivial
 | .goto _,_=>trivial
 | .ret,_=>trivial
 | .refuse _,_=>trivial
 | .rangeFunc _ _ _ _,_=>trivial
end Go.Ev
end
section
namespace Go.Ev
open Go Go.Proofs
variable{ws news:List aE}{v':AV}{o:aC}{f:Nat}{args:List AV}{S:aR}{C:bg}{cfg':cG}{e:dJ}
noncomputable def dC(f:Nat):Func:=match bh tab f with
 | some p=>p.1
 | none=>default
noncomputable def aN(f:Nat):Code:=match bh tab f with
 | some p=>p.2
 | none=>.skip
noncomputable def lb(f i:Nat):Code:=((bj (aN f)).getD i (0,.skip)).2
abbrev VQ:Type:=AX×List AV×aC
abbrev EQ:Type:=AV×aC
def io:cz:=λ_=>none
def iz(L:cz)(id:Nat)(e:St->Tr (AX×St)):cz:=λj=>bif Nat.beq j id then some e else L j
abbrev dO:aC:=⟨0,[],[]⟩
noncomputable def Qo(ws:List aE)(f:Nat)(x:AX×St):Tr EQ:=aU (vJ tab (Cw cfg ws) (dC f) x) .ret
noncomputable def rT(S:aR)(L:cz)(ws:List aE)(f i tn:Nat)(rel:List Nat)(vals:List AV)(J:Nat->Value)(o:aC):Tr VQ:=xc tab (cH cfg S) (sS S) L 1000 (Cw cfg ws) (lb f i) (sX tn rel vals J o) (Gi tn rel .ret)
noncomputable def bT(S:aR)(L:cz)(ws:List aE)(f:Nat)(args:List AV):Tr EQ:=xc tab (cH cfg S) (sS S) L 1000 (Cw cfg ws) (aN f) (jH (dC f) args dO) (Qo ws f)
def zd:List (Nat×aE)->Bool
 | []=>true
 | _=>false
noncomputable def PU(f:Nat)(x:AX×St):Tr AV:=aU (vJ tab (Cw cfg []) (dC f) x) λr=>bif zd r.2.le&&(kr 14 [] 20 r.1).isSome then .ret r.1 else .fail
noncomputable def pT(S:aR)(L:cz)(f:Nat)(args:List AV):Tr AV:=xc tab (cH cfg S) (sS S) L 1000 (Cw cfg []) (aN f) (jH (dC f) args dO) (PU f)
theorem AD:∀id,id<cfg.root.n->Dp (cfg.root.at id)=false:=by decide
def dL(ws:List aE)(v:AV)(news:List aE)(r:EQ):Prop:=Wk cfg (Cw cfg ws) 0 ⟨.node r.1 .nil .nil,1,r.2,[],none⟩ λs=>s.o=⟨news.length,news,[]⟩/\s.ts.get 0=v
theorem dL.refl{v:AV}:dL ws v news (v,⟨news.length,news,[]⟩):=Wk.refl ⟨rfl,rfl⟩
theorem dL.of{v:AV}(h1:v'=v)(h2:o=⟨news.length,news,[]⟩):dL ws v news (v',o):=by subst h1 h2;exact dL.refl
theorem Aa:Ms (Cw cfg []):=λid hid=>by
 have h14:id<cfg.root.n:=hid;have:gy (Cw cfg []).B id=cfg.root.at id:=by
  simp only[Cw,gy];rw[jK (by omega)];simp only[cond_false,fg];rw[bv.2 (Nat.zero_le _),cond_true,Nat.sub_zero]
 rw[this];exact⟨dG.lv.loops id h14,λi hi=>dG.lv.root id h14 i hi⟩
theorem HN{b:Nat}{ρ:List (Nat×Nat)}:∀{d:Nat} {v v':AV},kr b ρ d v=some v'->aD v=[]->v'=v:=by
 intro d;induction d with
 | zero=>intro v v' h;cases h
 | succ d ih=>
   have ihl:∀{vs vs':List AV},xE (kr b ρ d) vs=some vs'->bz vs=[]->vs'=vs:=by
    intro vs;induction vs with
    | nil=>intro vs' h _;cases h;rfl
    | cons v vs ihv=>
      intro vs' h hi;simp only[xE,ai,zAc]at h;obtain⟨v1,h1,vs1,h2,rfl⟩:=h;simp only[bz,List.append_eq_nil_iff]at hi;rw[ih h1 hi.1,ihv h2 hi.2]
   intro v v' h hi;unfold kr at h;cases v<;>simp only[ai,zAc]at h<;>simp only[aD,List.append_eq_nil_iff,reduceCtorEq,List.cons_ne_self]at hi
   case func f a c=>obtain⟨a',ha,c',hc,rfl⟩:=h;rw[ihl ha hi.1,ihl hc hi.2]
   case iface t u=>obtain⟨u',hu,rfl⟩:=h;rw[ih hu hi]
   case agg cs=>obtain⟨a',ha,rfl⟩:=h;rw[ihl ha hi]
   case tuple cs=>obtain⟨a',ha,rfl⟩:=h;rw[ihl ha hi]
   all_goals exact h.symm
theorem dL.plain{v:AV}(h1:v'=v)(hi:aD v=[])(hm:(kr 14 [] 20 v).isSome)(hle:o.le=[]):dL [] v [] (v',o):=by
 subst h1;obtain⟨u,hu⟩:=Option.isSome_iff_exists.1 hm;have e:=HN hu hi;subst e;refine(pf dG.lv (C:=Cw cfg []) (st:=⟨.node u .nil .nil,1,o,[],none⟩) (kb:=0) (sel:=[]) (ts':=.node u .nil .nil) (o':=dO) Aa (Nat.zero_le _) (λs hs=>by cases hs) List.nodup_nil (λp hp=>by rw[show(⟨.node u .nil .nil,1,o,[],none⟩:St).o=o from rfl,hle]at hp;cases hp) hle.symm rfl rfl (λi hi=>absurd hi (Nat.not_lt_zero i)) (λt ht=>absurd ht (Nat.not_lt_zero t)) ?_ (λd hd=>by cases hd) (λi hi=>by cases hi)).mono λs hs=>?_
 . have hu':kr ((Cw cfg []).lo+0) (ia (Cw cfg []).lo 0 []) 20 u=some u:=hu;simp only[wy,hu',ob]
 . rw[hs];exact⟨rfl,rfl⟩
section
variable{S:aR}(hS:ak Tryz.prog cfg S){L:cz}{ws:List aE}
include hS
theorem im{i tn:Nat}{rel:List Nat}(htn:aW tn 1000000)(hrel:nt tn rel)(hL:qv Tryz.prog (cH cfg S) (Cw cfg ws) L (lb f i)){ι:Type}(vals:ι->List AV)(own:ι->aC)(μ:ι->Nat)(kb:Nat)(hkb:∀x,kb<=(own x).n){Q:VQ->Prop}
 (hr:∀x J,(rT S L ws f i tn rel (vals x) J (own x)).wp λq=>match q.1 with
   | .normal=>∃y,μ y<μ x/\VW cfg (Cw cfg ws) kb tn rel q.2.1 q.2.2 (vals y) (own y)
   | ax=>∃vs2 o2,VW cfg (Cw cfg ws) kb tn rel q.2.1 q.2.2 vs2 o2/\Q (ax,vs2,o2)) {vs:List AV} {o:aC} (hk:o.n<=kb) (h0:∀J,Wk cfg (Cw cfg ws) kb (sX tn rel vs J o) λs=>∃x J',s=sX tn rel (vals x) J' (own x)) (J:Nat->Value) :
 bO Tryz.prog (cH cfg S) (Cw cfg ws) (.loop (lb f i)) (sX tn rel vs J o) λr=>∃ax vs' o' J',Q (ax,vs',o')/\r=(ax,sX tn rel vs' J' o'):=by
 have hW:∀{k:Nat} {st:St} {A:St->Prop},Wk cfg (Cw cfg ws) k st A->Wk (cH cfg S) (Cw cfg ws) k st A:=λh D m a w hi ht=>by
  obtain⟨s,D',m',hA,h1,h2,h3,h4,h5⟩:=h D m a w (dV.to (cfg:=cH cfg S) (cfg':=cfg) rfl rfl hi) ht;exact⟨s,D',m',hA,h1,h2,h3,dV.to (cfg:=cfg) (cfg':=cH cfg S) rfl rfl h4,λD0 m0 o0 w0 ho hl he=>dk.to (cfg:=cfg) (cfg':=cH cfg S) rfl rfl (h5 D0 m0 o0 w0 ho hl (dk.to (cfg:=cH cfg S) (cfg':=cfg) rfl rfl he))⟩
 refine HI (cF.good hS) (mX cfg S) (kb:=kb) (n:=1000) (aS.1 htn) hrel hL vals own μ hkb (λx J=>?_) hk (λJ=>hW (h0 J)) J;refine Tr.wp_mono (λq hq=>?_) (hr x J);revert hq;cases q.1 with
 | normal=>exact λ⟨y,hy,hv⟩=>⟨y,hy,λJ=>hW (hv J)⟩
 | exit id=>exact λ⟨vs2,o2,hv,h⟩=>⟨vs2,o2,λJ=>hW (hv J),h⟩
 | ret=>exact λ⟨vs2,o2,hv,h⟩=>⟨vs2,o2,λJ=>hW (hv J),h⟩
theorem Bp{v:AV}(hb:bh tab f=some (dC f,aN f))(hlen:args.length<=1000)(hL:qv Tryz.prog (cH cfg S) (Cw cfg ws) L (aN f))
 (h:(bT S L ws f args).wp (dL ws v news)):bt Tryz.prog cfg f args ws v news:=by
 refine cF.wsem hS hb hlen ((vW (cF.good hS) (mX cfg S) hL h).mono λx hx=>?_);have hx:(Qo ws f x).wp (dL ws v news):=hx;unfold Qo at hx;cases he:vJ tab (Cw cfg ws) (dC f) x with
 | none=>rw[he]at hx;exact hx.elim
 | some r=>rw[he]at hx;exact⟨r,rfl,hx⟩
end
theorem kw(hS:ak Tryz.prog cfg S){L:cz}{v:AV}(hb:bh tab f=some (dC f,aN f))(hlen:args.length<=1000)(hL:qv Tryz.prog (cH cfg S) (Cw cfg []) L (aN f))
 (h:(pT S L f args).wp (·=v)) (hi:aD v=[]):bt Tryz.prog cfg f args [] v []:=by
 refine cF.wsem hS hb hlen ((vW (cF.good hS) (mX cfg S) hL h).mono λx hx=>?_);have hx:(PU f x).wp (·=v):=hx;unfold PU at hx;cases he:vJ tab (Cw cfg []) (dC f) x with
 | none=>rw[he]at hx;exact hx.elim
 | some r=>
   rw[he]at hx;have hx:(bif zd r.2.le&&(kr 14 [] 20 r.1).isSome then Tr.ret r.1 else .fail).wp (·=v):=hx;cases hb:(zd r.2.le&&(kr 14 [] 20 r.1).isSome)with
   | false=>rw[hb]at hx;exact hx.elim
   | true=>
     rw[hb,cond_true]at hx;have hx:r.1=v:=hx;rw[zAa]at hb;have hle:r.2.le=[]:=by
      have:=hb.1;cases hr:r.2.le with
      | nil=>rfl
      | cons a b=>rw[hr]at this;cases this
     exact⟨r,rfl,dL.plain hx hi (by rw[<-hx];exact hb.2) hle⟩
theorem vX{R:Type}{b:Bool}{t:Tr R}{Q:R->Prop}(h:(fI b t).wp Q):b/\t.wp Q:=by
 cases b with
 | true=>exact⟨rfl,h⟩
 | false=>exact h.elim
def jv(l:List Value)(j:Nat):Value:=l.getD j undef
def aH{R:Type}:List Bool->Tr R->Tr R
 | [],t=>t
 | c::cs,t=>fI c (aH cs t)
theorem cY{R:Type}{c:Bool}{cs:List Bool}{t:Tr R}{Q:R->Prop}(h:(aH (c::cs) t).wp Q):c/\(aH cs t).wp Q:=vX h
theorem bK{R:Type}{c:Bool}{cs:List Bool}{t:Tr R}{s:R}(h:(aH (c::cs) t).run=some s):c/\(aH cs t).run=some s:=bE h
def R9:List Bool->Prop
 | []=>True
 | c::cs=>c/\R9 cs
theorem cL{R:Type}{t:Tr R}{Q:R->Prop}:∀{cs:List Bool},(aH cs t).wp Q->R9 cs/\t.wp Q
 | [],h=>⟨trivial,h⟩
 | _::_,h=>by
   obtain⟨h1,h⟩:=cY h;obtain⟨h2,h⟩:=cL h;exact⟨⟨h1,h2⟩,h⟩
theorem aF{R:Type}{t:Tr R}{s:R}:∀{cs:List Bool},(aH cs t).run=some s->R9 cs/\t.run=some s
 | [],h=>⟨trivial,h⟩
 | _::_,h=>by
   obtain⟨h1,h⟩:=bK h;obtain⟨h2,h⟩:=aF h;exact⟨⟨h1,h2⟩,h⟩
theorem dD{R:Type}{t:Tr R}{Q:R->Prop}(h:∀Q':R->Prop,(∀q,Q q->Q' q)->t.wp Q'):t.wp Q:=h Q λ_ h=>h
theorem ag{P:Program}{c:Code}:qv P cfg' C io c:=lk λp _ e he=>by cases he
theorem dv{P:Program}{L:cz}{c:Code}{ids:List Nat}(hids:(bj c).map (·.1)=ids)(h:∀i,i<ids.length->∀e,L (ids.getD i 0)=some e->∀st Q,(e st).wp Q->bO P cfg' C (.loop ((bj c).getD i (0,.skip)).2) st Q):qv P cfg' C L c:=by
 refine lk λp hp e he st Q hw=>?_;obtain⟨i,hi⟩:=List.getElem?_of_mem hp;have hlen:i<(bj c).length:=(List.getElem?_eq_some_iff.1 hi).1;have hid:ids.getD i 0=p.1:=by
  rw[<-hids,zAe,List.getElem?_map,hi];rfl
 have:=h i (by rw[<-hids];simpa using hlen) e (by rw[hid];exact he) st Q hw;rw[zAe,hi]at this;exact this
theorem pi{s:List UInt8}{i:Nat}(h:i<s.length):s.take (i+1)=s.take i++[s.getD i 0]:=by
 rw[List.take_add_one,List.getElem?_eq_getElem h,zAe,List.getElem?_eq_getElem h];rfl
theorem Iz{α:Type}(s:List α):s.take s.length=s:=List.take_length
def plainW(e:dJ):lB:=λargs ws=>match ws with
 | []=>ob (e args) λt=>some (t.bind λv=>.ret (v,[]))
 | _=>none
theorem Ia{P:Program}(h:∀args t v,e args=some t->t.run=some v->bt P cfg f args [] v []):yp P cfg f (fy cfg.root.n [] (plainW e)):=by
 refine ga dG.lv AD λargs ws t r ht hr=>?_;unfold plainW at ht;split at ht
 . rw[ai]at ht;obtain⟨t0,h0,ht⟩:=ht;cases ht;obtain⟨v,hv,h2⟩:=Tr.run_bind hr;cases h2;exact⟨h args t0 v h0 hv,λx hx=>by cases hx⟩
 . cases ht
def aY(S:aR)(f:Nat)(e:dJ):aR:=fw S f (fy 14 [] (plainW e))
theorem au(h:ak Tryz.prog cfg S)(he:∀args t v,e args=some t->t.run=some v->bt Tryz.prog cfg f args [] v []):ak Tryz.prog cfg (aY S f e):=bm h (Ia he)
theorem jT{A:Type}{t:Tr A}{P:A->Prop}(D:DT){R:(A->Prop)->Prop}(hk:∀Q,fx Q t D=R Q)(h:∀Q:A->Prop,(∀q,P q->Q q)->R Q):t.wp P:=dD λQ hQ=>bG ((hk Q).mpr (h Q hQ))
theorem iI(hS:ak Tryz.prog cfg S){L:cz}{v:AV}(hL:qv Tryz.prog (cH cfg S) (Cw cfg []) L (aN f))(D:DT){R:(AV->Prop)->Prop}(hk:∀Q,fx Q (pT S L f args) D=R Q)(h:∀Q:AV->Prop,(∀q,q=v->Q q)->R Q)(hb:bh tab f=some (dC f,aN f):=by kernel_rfl)(hlen:args.length<=1000:=by simp)(hi:aD v=[]:=by simp[aD,bz]):bt Tryz.prog cfg f args [] v []:=
 kw hS hb hlen hL (dD λQ hQ=>bG ((hk Q).mpr (h Q hQ))) hi
theorem kP(hS:ak Tryz.prog cfg S){L:cz}{v:AV}(hL:qv Tryz.prog (cH cfg S) (Cw cfg []) L (aN f))(D:DT){R:(AV->Prop)->Prop}(hk:∀Q,fx Q (pT S L f args) D=R Q)(h:∀Q:AV->Prop,Q v->R Q)(hb:bh tab f=some (dC f,aN f):=by kernel_rfl)(hlen:args.length<=1000:=by simp)(hi:aD v=[]:=by simp[aD,bz]):bt Tryz.prog cfg f args [] v []:=
 iI hS hL D hk (λQ hQ=>h Q (hQ v rfl)) hb hlen hi
theorem BO(hS:ak Tryz.prog cfg S){L:cz}{v:AV}(hL:qv Tryz.prog (cH cfg S) (Cw cfg ws) L (aN f))(D:DT){R:(EQ->Prop)->Prop}(hk:∀Q,fx Q (bT S L ws f args) D=R Q)(h:∀Q:EQ->Prop,(∀q,dL ws v news q->Q q)->R Q)(hb:bh tab f=some (dC f,aN f):=by kernel_rfl)(hlen:args.length<=1000:=by simp):bt Tryz.prog cfg f args ws v news:=
 Bp hS hb hlen hL (dD λQ hQ=>bG ((hk Q).mpr (h Q hQ)))
def aT(s:List UInt8)(a b:Int):Nat:=(s.filter λc=>decide (a<=(c.toNat:Int))&&decide ((c.toNat:Int)<=b)).length
theorem m7(s:List UInt8)(a b:Int):aT s a b<=s.length:=List.length_filter_le _ _
theorem HT{s:List UInt8}{a b:Int}{i:Nat}(h:i<s.length):aT (s.take (i+1)) a b=aT (s.take i) a b+if a<=((s.getD i 0).toNat:Int)/\((s.getD i 0).toNat:Int)<=b then 1 else 0:=by
 unfold aT;rw[pi h,List.filter_append,zAg];congr 1
 split
 . rename_i h2;simp only[List.filter,h2.1,h2.2];rfl
 . rename_i h2;by_cases h3:a<=((s.getD i 0).toNat:Int)
   . have h4:¬((s.getD i 0).toNat:Int)<=b:=λh=>h2 ⟨h3,h⟩;simp only[List.filter,h3,h4];rfl
   . simp only[List.filter,h3];rfl
def Qz:d9:=λvs o=>match vs,o with
 | [.str s,.int .u8 a,.int .u8 b,.int .i64 n,.int .i64 i],⟨0,[],[]⟩=>some (fI (Nat.ble s.length 1000000) (fI (aa n 0) (fI (aa i 0) (.ret (.exit 0,[.str s,.int .u8 a,.int .u8 b,.int .i64 (Int.ofNat (aT s a b)),.int .i64 (Int.ofNat s.length)],dO)))))
 | _,_=>none
def XB:cz:=iz io 0 (eb 30 [0,1,2,7,8] Qz)
def UJ:dJ:=λargs=>match args with
 | [.str s,.int .u8 a,.int .u8 b]=>some (fI (Nat.ble s.length 1000000) (.ret (.int .i64 (Int.ofNat (aT s a b)))))
 | _=>none
def T1:aR:=aY S7 121 UJ
def Zi(s:List UInt8)(a b n:Int)(i:Nat)(J:Nat->Value){Q:VQ->Prop}:fx Q (rT S7 io [] 121 0 30 [0,1,2,7,8] [.str s,.int .u8 a,.int .u8 b,.int .i64 n,.int .i64 (Int.ofNat i)] J dO) (bA 1120338121224270224204)=((λ(E F G O:AV)(C I N:Int)(H:Nat)=>(λ(A P:Bool)(T:Int)=>(λ(V:AV)(U:Bool)(B:Prop)=>(λ(W:Prop)=>(P->aW i H/\(A->A/\A/\aW i H/\A/\A/\A/\(ab I b->ae .i64 N/\U/\Q (.normal,[E,F,G,.int .i64 N,V],⟨0,[],[]⟩))/\(ab I b=false->W))/\(B->B/\B/\B/\B/\B/\W))/\(P=false->Q (.exit 0,[E,F,G,O,.int .i64 C],⟨0,[],[]⟩))) (U/\Q (.normal,[E,F,G,O,V],⟨0,[],[]⟩))) (.int .i64 T) (ae .i64 T) (A=false)) (ab a I) (not (ab (Int.ofNat H) C)) (Int.add C 1)) (.str s) (.int .u8 a) (.int .u8 b) (.int .i64 n) (Int.ofNat i) (Int.ofNat (UInt8.toNat (List.getD s i 0))) (Int.add n 1) s.length):=by kernel_rfl
theorem UV:cx Tryz.prog (cH cfg S7) (Cw cfg []) (lb 121 0) 30 [0,1,2,7,8] Qz:=by
 intro vs o t Q hv hq J;unfold Qz at hv;split at hv
 . rename_i s a b n i;cases hv;obtain⟨h1,hq⟩:=vX hq;obtain⟨h2,hq⟩:=vX hq;obtain⟨h3,hq⟩:=vX hq;rw[aq]at h1;rw[al]at h2 h3;subst h2 h3;refine im tK rfl rfl ag (ι:={i:Nat // i<=s.length}) (λx=>[.str s,.int .u8 a,.int .u8 b,.int .i64 (Int.ofNat (aT (s.take x.1) a b)),.int .i64 (Int.ofNat x.1)]) (λ_=>dO) (λx=>s.length-x.1) 0 (λ_=>Nat.le_refl _) (λx J=>?_) (Nat.le_refl _) (λJ=>Wk.refl ⟨⟨0,Nat.zero_le _⟩,J,rfl⟩) J;obtain⟨i,hi⟩:=x;dsimp only;have hn:=m7 (s.take i) a b;rw[List.length_take]at hn;have hsn:=@HT s a b i;refine dD λQ' hQ=>bG ((Zi s a b _ i J).mpr ?_);simp only[az,reduceCtorEq]
   (repeat' first|exact trivial|refine⟨?_,?_⟩|intro)<;>first|omega|refine hQ _ ?_
   . have h:=hsn (by omega);rw[if_pos ⟨by assumption,by assumption⟩]at h;exact⟨⟨i+1,by omega⟩,by dsimp only;omega,VW.of_eq (by dsimp only;rw[h];rfl) rfl⟩
   . have h:=hsn (by omega);rw[if_neg (by omega)]at h;exact⟨⟨i+1,by omega⟩,by dsimp only;omega,VW.of_eq (by dsimp only;rw[h];rfl) rfl⟩
   . have h:=hsn (by omega);rw[if_neg (by omega)]at h;exact⟨⟨i+1,by omega⟩,by dsimp only;omega,VW.of_eq (by dsimp only;rw[h];rfl) rfl⟩
   . obtain rfl:i=s.length:=by omega
     rw[Iz];exact⟨_,_,VW.refl,hq⟩
 . cases hv
def Nh:bh tab 121=some (dC 121,aN 121):=by kernel_rfl
def I0:(bj (aN 121)).map (·.1)=[0]:=by kernel_rfl
theorem Vm(s:List UInt8)(a b:Int)(h:s.length<=1000000):bt Tryz.prog cfg 121 [.str s,.int .u8 a,.int .u8 b] [] (.int .i64 (Int.ofNat (aT s a b))) []:=by
 refine Bp tK (L:=XB) Nh (by simp) (dv I0 λi hi e he st Q hw=>?_) ?_
 . have hi:i=0:=by simp at hi;omega
   subst hi;cases he;exact b7 (cF.good tK) (by decide) rfl UV hw
 . refine jT (bA 1002) (R:=λQ=>Nat.ble s.length 1000000/\(∀J1:Nat->Value,Q (.int .i64 (Int.ofNat (aT s a b)),⟨0,[],[]⟩))) (λ_=>by kernel_rfl) λQ' hQ=>?_;simp only[az,reduceCtorEq]
   (repeat' first|exact trivial|refine⟨?_,?_⟩|intro)<;>first|omega|refine hQ _ ?_
   exact dL.of rfl rfl
theorem Vn:ak Tryz.prog cfg T1:=au tK λargs t v he hv=>by
 unfold UJ at he;split at he
 . cases he;obtain⟨h1,h2⟩:=bE hv;cases h2;exact Vm _ _ _ (aq.mp h1)
 . cases he
end Go.Ev
end
