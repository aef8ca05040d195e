import Derived.Test.YtoghlpcacfnjbaaGreatDoorP17
set_option linter.all false
set_option maxRecDepth 100000
set_option maxHeartbeats 4000000
section
namespace Go.Ev
open Go Go.RowKit
variable{n kb:Nat}{b:Code}{st:St}{rel:List Nat}{vs vs':List AV}{o o':aB}
abbrev cx:Type:=Nat->Option (St->Tr (AX×St))
section
variable{R:Type}
abbrev xi(R:Type):Type:=fm->cL->zy->cx->Nat->ol R->bg->St->(AX×St->Tr R)->Tr R
def PJ:xi R:=λ_ _ _ _ _ _ _ st K=>K (.a,st)
def Yv(a b:Code):xi R:=λ_ _ _ _ _ code C st K=>code C a st λx=>rK (code C b) x K
def Pe(c:Operand)(a b:Code):xi R:=λ_ cfg _ _ _ code C st K=>aT (fj cfg.G st.ts c) (CG (λc=>code C c st K) a b)
def BB:Code->Bool
 | .loop _=>true
 | _=>false
def Hw(id:Nat)(b:Code)(code:ol R)(C:bg)(st:St)(K:AX×St->Tr R)(e:Option (St->Tr (AX×St))):Tr R:=match e with
 | some e=>(e st).l0 λr=>K (lQ id r)
 | none=>code C b st λr=>K (lQ id r)
def I5(id:Nat)(b:Code):xi R:=λ_ _ _ L _ code C st K=>bif BB b then Hw id b code C st K (L id)else code C b st λr=>K (lQ id r)
def TW(b:Code):xi R:=λ_ _ _ _ _ code C st K=>code C b st λx=>rK (code C (.loop b)) x K
def Qm(b:Code):xi R:=λ_ _ _ _ _ code C st K=>code C b st K
def UP(id:Nat):xi R:=λ_ _ _ _ _ _ _ st K=>K (.b id,st)
def Zx:xi R:=λ_ _ _ _ _ _ _ st K=>K (.c,st)
def Ge(ops:Array Oper)(draw:Bool):xi R:=λP cfg orcT _ n _ C st K=>
 (wO P cfg (si P cfg orcT false (rx P cfg orcT n)) C (si P cfg orcT true (rx P cfg orcT n)) ops draw st .a0).j0 λst'=>K (.a,st')
def Uv:xi R:=λ_ _ _ _ _ _ _ _ _=>.c0
def JH:Code->xi R
 | .skip=>PJ
 | .label _=>PJ
 | .seq a b=>Yv a b
 | .cond c a b=>Pe c a b
 | .block id b=>I5 id b
 | .loop b=>TW b
 | .scope b=>Qm b
 | .exit id=>UP id
 | .ret=>Zx
 | .region _ ops draw=>Ge ops draw
 | _=>Uv
def xz(P:fm)(cfg:cL)(orcT:zy)(L:cx):Nat->ol R
 | 0,_,_,_,_=>.c0
 | n+1,C,c,st,K=>JH c P cfg orcT L n (xz P cfg orcT L n) C st K
end
def qI(P:Program)(cfg:cL)(C:bg)(L:cx):Code->Prop
 | .seq a b=>qI P cfg C L a/\qI P cfg C L b
 | .cond _ a b=>qI P cfg C L a/\qI P cfg C L b
 | .block id b=>(BB b->∀e,L id=some e->∀st Q,(e st).wp Q->bN P cfg C b st Q)/\qI P cfg C L b
 | .loop b=>qI P cfg C L b
 | .scope b=>qI P cfg C L b
 | _=>True
section
variable{P:Program}{T:fm}{cfg:cL}(g:nG P T cfg){orcT:zy}(ho:Bt cfg orcT){L:cx}{C:bg}{R:Type}{Q:R->Prop}
include g ho
def JW(P:Program)(cfg:cL)(C:bg)(n:Nat)(b:Code)(st:St)(Q:AX×St->Prop):Prop:=
 ∀D m a w,dX cfg D m C st.o w->TR D m st a->∀K:Exit->Act->World->Prop,
  (∀r,Q r->r.2.ro=st.ro->∀D' m' a' w',TR D' m' r.2 a'->dw cfg C D m st.o w D' m' r.2.o w'->K (lH r.1) a' w')->Code.roundsIn (FR (wo m st.ro)) 0 P b K n a w
omit g ho in
theorem Iu{Q:AX×St->Prop}(h:bN P cfg C b st (qg (λs=>JW P cfg C n b s Q) Q)):JW P cfg C (n+1) b st Q:=by
 intro D m a w hi ht K hK;rw[roundsIn_succ];refine h D m a w hi ht _ λr hr hro D' m' a' w' ht' he=>?_;have fr:wo m' r.2.ro=wo m st.ro:=by rw[hro,rh ht.f0 he.a0]
 unfold qg at hr;cases hx:r.1 with
 | a=>
   rw[hx]at hr;have:=hr D' m' a' w' he.b0 ht' K λr2 hr2 hro2 D2 m2 a2 w2 ht2 he2=>hK r2 hr2 (hro2.trans hro) D2 m2 a2 w2 ht2 (he.c0 he2);rw[fr]at this;exact this
 | b id=>rw[hx]at hr;have:=hK r hr hro D' m' a' w' ht' he;rw[hx]at this;exact this
 | c=>rw[hx]at hr;have:=hK r hr hro D' m' a' w' ht' he;rw[hx]at this;exact this
omit g ho in
theorem I6{Q:AX×St->Prop}(h:JW P cfg C n b st Q):bN P cfg C (.loop b) st Q:=λD m a w hi ht K hK=>wpIn_loop_rounds n (h D m a w hi ht K hK)
theorem Dw:∀n {c:Code} {st:St} {K:AX×St->Tr R},qI P cfg C L c->(xz T cfg orcT L n C c st K).wp Q->(bN P cfg C c st λx=>(K x).wp Q)/\∀b,c=.loop b->JW P cfg C n b st λx=>(K x).wp Q
 | 0,c,st,K,hL,h=>h.elim
 | n+1,c,st,K,hL,h=>by
   have ih:=@Dw n;unfold xz at h;have thenm:∀{b:Code} {x:AX×St} {K:AX×St->Tr R},qI P cfg C L b->(rK (xz T cfg orcT L n C b) x K).wp Q->qg (λs=>bN P cfg C b s λx=>(K x).wp Q) (λx=>(K x).wp Q) x:=by
    intro b x K hb h;unfold rK at h;unfold qg;cases hx:x.1 with
    | a=>rw[hx]at h;exact(ih hb h).1
    | b id=>rw[hx]at h;exact h
    | c=>rw[hx]at h;exact h
   cases c<;>simp only[JH]at h
   case loop b=>
    have hr:JW P cfg C (n+1) b st λx=>(K x).wp Q:=by
     refine Iu ((ih (c:=b) hL h).1.a0 λx hx=>?_);unfold rK at hx;unfold qg;cases hxe:x.1 with
     | a=>rw[hxe]at hx;exact(ih (c:=.loop b) hL hx).2 b rfl
     | b id=>rw[hxe]at hx;exact hx
     | c=>rw[hxe]at hx;exact hx
    refine⟨I6 hr,λb' e=>?_⟩;cases e;exact hr
   all_goals refine⟨?_,λb e=>by cases e⟩
   case skip=>exact L8 h
   case label=>exact HT h
   case exit=>exact Mq h
   case ret=>exact Nf h
   case seq a b=>exact NW ((ih hL.1 h).1.a0 λx hx=>thenm hL.2 hx)
   case cond c a b=>
    unfold Pe at h;cases hv:fj cfg.G st.ts c with
    | none=>rw[hv]at h;exact h.elim
    | some v=>
      rw[hv]at h;have h:(CG (λc=>xz T cfg orcT L n C c st K) a b v).wp Q:=h;unfold CG at h;cases v<;>simp only at h<;>first|exact h.elim|skip
      rename_i d;refine KA hv (λe=>?_) (λe=>?_)
      . subst e;exact(ih hL.1 h).1
      . subst e;exact(ih hL.2 h).1
   case block id b=>
    unfold I5 at h;refine IZ ?_;cases hb:BB b with
    | false=>rw[hb]at h;exact(ih hL.2 h).1
    | true=>
      rw[hb,cond_true]at h;unfold Hw at h;cases he:L id with
      | none=>rw[he]at h;exact(ih hL.2 h).1
      | some e=>rw[he]at h;exact hL.1 hb e he st _ (Tr.h0 h)
   case scope b=>exact H1 (ih (c:=b) hL h).1
   case region id ops draw=>
    unfold Ge at h;obtain⟨st',hr,h⟩:=Tr.k0 h;obtain⟨st2,hs,h2⟩:=wd (rnd:=qJ (eZ T cfg n)) (lZ ho (mq ho n)) (lZ ho (mq ho n)) hr;cases h2;refine JI g (n:=n+1) (r:=(.a,st')) ?_ h;rw[eZ,fN,sD];simp only[hs,ob]
   all_goals exact h.elim
theorem wE{c:Code}{K:AX×St->Tr R}(hL:qI P cfg C L c)(h:(xz T cfg orcT L n C c st K).wp Q):bN P cfg C c st λx=>(K x).wp Q:=(Dw g ho n hL h).1
end
def tF(J:Nat->Value):Nat->Ts->Ts
 | 0,t=>t
 | n+1,t=>tF J n (Ts.k0 20 t n (.i (J n)))
def iY:List Nat->List AV->Ts->Ts
 | i::is,v::vs,t=>iY is vs (Ts.k0 20 t i v)
 | _,_,t=>t
def tr(tn:Nat)(rel:List Nat)(vals:List AV)(J:Nat->Value)(o:aB):St:=⟨iY rel vals (tF J tn .b0),tn,o,[],none⟩
def jP(st:St):List Nat->List AV
 | []=>[]
 | i::is=>st.ts.a0 i::jP st is
def NK:List Nat->Bool
 | []=>true
 | _=>false
def VN:Option Nat->Bool
 | none=>true
 | _=>false
def Gg{R:Type}(tn:Nat)(rel:List Nat)(K:AX×List AV×aB->Tr R)(r:AX×St):Tr R:=bif Nat.beq r.2.tn tn&&NK r.2.ds then K (r.1,jP r.2 rel,r.2.o)else .c0
abbrev dW:Type:=List AV->aB->Option (Tr (AX×List AV×aB))
def d9(tn:Nat)(rel:List Nat)(vw:dW)(st:St):Tr (AX×St):=
 bif Nat.beq st.tn tn&&NK st.ds&&VN st.ro then aT (vw (jP st rel) st.o) λt=>t.l0 λq=>.f0 λJ=>.a0 (q.1,tr tn rel q.2.1 J q.2.2)else .c0
def cu(P:Program)(cfg:cL)(C:bg)(b:Code)(tn:Nat)(rel:List Nat)(vw:dW):Prop:=
 ∀vs o t Q,vw vs o=some t->t.wp Q->∀J,bN P cfg C (.loop b) (tr tn rel vs J o) λr=>∃ax vs' o' J',Q (ax,vs',o')/\r=(ax,tr tn rel vs' J' o')
theorem G5{J:Nat->Value}:∀{n:Nat} {t:Ts} {i:Nat},n<1000000->(tF J n t).a0 i=if i<n then .i (J i)else t.a0 i
 | 0,t,i,_=>by simp[tF]
 | n+1,t,i,h=>by
   have hk:n<2^20-1:=Nat.lt_of_lt_of_le (by omega) (by decide:1000000<=2^20-1);rw[tF,G5 (by omega),Ts.d0 20 _ _ _ _ hk];by_cases h1:i<n
   . grind
   . grind
theorem Hg{f:Nat->AV}:∀{rel:List Nat} {vs:List AV} {t:Ts} {i:Nat},vs.length=rel.length->(∀k,k<rel.length->vs.getD k bt=f (rel.getD k 0))->(∀k∈rel,k<1000000)->(iY rel vs t).a0 i=if i∈rel then f i else t.a0 i
 | [],vs,t,i,_,_,_=>by cases vs<;>simp[iY]
 | r::rel,[],t,i,h,_,_=>by simp at h
 | r::rel,v::vs,t,i,h,hf,hr=>by
   have hk:r<2^20-1:=Nat.lt_of_lt_of_le (hr r List.mem_cons_self) (by decide:1000000<=2^20-1);rw[iY,Hg (f:=f) (by simpa using h) (λk hk=>by simpa using hf (k+1) (by simpa using hk)) (λk hk=>hr k (List.mem_cons_of_mem _ hk)),Ts.d0 20 _ _ _ _ hk];by_cases h1:i∈rel
   . grind
   . grind
theorem qt(st:St):∀rel:List Nat,jP st rel=rel.map st.ts.a0
 | []=>rfl
 | i::is=>by simp[jP,qt st is]
theorem tE{n:Nat}:∀{l:List Nat},nP n l->∀k∈l,k<n
 | [],_,k,hk=>by cases hk
 | x::xs,h,k,hk=>by
   rw[nP,zAa,aU]at h;rcases List.mem_cons.1 hk with rfl|hk
   . exact h.1
   . exact tE h.2 k hk
section
variable{cfg:cL}{C:bg}
theorem BE{k tn:Nat}(ht:tn<1000000)(hrel:nP tn rel)(h1:st.tn=tn)(h2:st.ds=[])(h3:st.ro=none) :
 Wk cfg C k st λs=>∃J,s=tr tn rel (jP st rel) J st.o:=by
 intro D m a w hi htr;have hr:∀k∈rel,k<tn:=tE hrel;have hget:∀i,(iY rel (jP st rel) (tF (λt=>aj m (st.ts.a0 t)) tn .b0)).a0 i=if i∈rel then st.ts.a0 i else if i<tn then .i (aj m (st.ts.a0 i))else bt:=λi=>by
  rw[Hg (f:=st.ts.a0) (by rw[qt];simp) (λk hk=>by rw[qt];simp[List.getD_eq_getElem?_getD,hk]) (λk hk=>Nat.lt_trans (hr k hk) ht),G5 ht,Ts.f0]
 refine⟨tr tn rel (jP st rel) (λt=>aj m (st.ts.a0 t)) st.o,D,m,⟨_,rfl⟩,⟨by rw[htr.b0,h1];rfl,λt=>?_,λt=>?_,by rw[htr.a0,h2];rfl,λd hd=>(by cases hd),λi hi=>(by cases hi)⟩,h3.symm,by rw[h3];rfl,hi,λ_ _ _ _ _ _ h=>h⟩
 . show a.tmps.getD t undef=aj m ((iY rel (jP st rel) (tF (λt=>aj m (st.ts.a0 t)) tn .b0)).a0 t);rw[hget t];split
   . exact htr.d0 t
   . split
     . simp only[aj];exact htr.d0 t
     . rename_i h;rw[iX];have hs:=htr.b0;simp only[Array.getD];rw[dif_neg (by omega)]
 . show dh D m ((iY rel (jP st rel) (tF (λt=>aj m (st.ts.a0 t)) tn .b0)).a0 t);rw[hget t];split
   . exact htr.c0 t
   . split
     . exact bM (by simp[aC])
     . exact iy
def VW(cfg:cL)(C:bg)(kb tn:Nat)(rel:List Nat)(vs:List AV)(o:aB)(vs':List AV)(o':aB):Prop:=∀J,Wk cfg C kb (tr tn rel vs J o) λs=>∃J',s=tr tn rel vs' J' o'
theorem VW.b0{tn:Nat}:VW cfg C kb tn rel vs o vs o:=λJ=>Wk.a0 ⟨J,rfl⟩
theorem VW.a0{tn:Nat}(h1:vs=vs')(h2:o=o'):VW cfg C kb tn rel vs o vs' o':=by subst h1 h2;exact VW.b0
inductive sK:List AV->List AV->Prop
 | nil:sK [] []
 | same {v:AV} {vs vs':List AV}:sK vs vs'->sK (v::vs) (v::vs')
 | int {k:IntKind} {n:Int} {vs vs':List AV}:sK vs vs'->sK (.a k n::vs) (.i (.int k n)::vs')
 | bool {b:Bool} {vs vs':List AV}:sK vs vs'->sK (.b b::vs) (.i (.bool b)::vs')
 | a0 {s:List UInt8} {vs vs':List AV}:sK vs vs'->sK (.d s::vs) (.i (.string ⟨⟨s⟩⟩)::vs')
 | any {v:AV} {c:Value} {vs vs':List AV}:(∀m,aj m v=c)->sK vs vs'->sK (v::vs) (.i c::vs')
theorem sK.ok{D:Nat->Prop}{m:Nat->bv}:∀{vs vs':List AV},sK vs vs'->vs.length=vs'.length/\∀i,aj m (vs'.getD i bt)=aj m (vs.getD i bt)/\(dh D m (vs.getD i bt)->dh D m (vs'.getD i bt)):=by
 intro vs vs' h;have step:∀{v v':AV} {vs vs':List AV},aj m v'=aj m v->(dh D m v->dh D m v')->(vs.length=vs'.length/\∀i,aj m (vs'.getD i bt)=aj m (vs.getD i bt)/\(dh D m (vs.getD i bt)->dh D m (vs'.getD i bt)))->((v::vs).length=(v'::vs').length/\∀i,aj m ((v'::vs').getD i bt)=aj m ((v::vs).getD i bt)/\(dh D m ((v::vs).getD i bt)->dh D m ((v'::vs').getD i bt))):=by
  intro v v' vs vs' h1 h2 h3;refine⟨by simp[h3.1],λi=>?_⟩;cases i with
  | zero=>exact⟨h1,h2⟩
  | succ i=>exact h3.2 i
 have nid:∀{c:Value},dh D m (.i c):=bM (by simp[aC]);induction h with
 | nil=>exact⟨rfl,λi=>⟨rfl,id⟩⟩
 | same _ ih=>exact step rfl id ih
 | int _ ih=>exact step (by simp[aj]) (λ_=>nid) ih
 | bool _ ih=>exact step (by simp[aj]) (λ_=>nid) ih
 | a0 _ ih=>exact step (by simp[aj]) (λ_=>nid) ih
 | any hc _ ih=>exact step (by rw[hc m];simp[aj]) (λ_=>nid) ih
theorem Gn{R:AV->AV->Prop}:∀{rel:List Nat} {vs vs':List AV} {t t':Ts},vs.length=vs'.length->(∀i,R (vs.getD i bt) (vs'.getD i bt))->(∀i,R (t.a0 i) (t'.a0 i))->(∀k∈rel,k<1000000)->∀i,R ((iY rel vs t).a0 i) ((iY rel vs' t').a0 i)
 | [],vs,vs',t,t',hl,hv,h,_,i=>by cases vs<;>cases vs'<;>exact h i
 | r::rel,[],[],t,t',hl,hv,h,_,i=>h i
 | r::rel,v::vs,v'::vs',t,t',hl,hv,h,hr,i=>by
   have hk:r<2^20-1:=Nat.lt_of_lt_of_le (hr r List.mem_cons_self) (by decide:1000000<=2^20-1);refine Gn (rel:=rel) (vs:=vs) (vs':=vs') (by simpa using hl) (λi=>hv (i+1)) (λi=>?_) (λk hk=>hr k (List.mem_cons_of_mem _ hk)) i;rw[Ts.d0 20 _ _ _ _ hk,Ts.d0 20 _ _ _ _ hk];split
   . exact hv 0
   . exact h i
 | r::rel,[],_::_,_,_,hl,_,_,_,_=>by cases hl
 | r::rel,_::_,[],_,_,hl,_,_,_,_=>by cases hl
theorem VW.c0{tn:Nat}(h:sK vs vs')(hrel:nP 1000000 rel):VW cfg C kb tn rel vs o vs' o:=by
 intro J D m a w hi ht;obtain⟨h1,h2⟩:=h.ok (D:=D) (m:=m);have key:=Gn (R:=λv v'=>aj m v'=aj m v/\(dh D m v->dh D m v')) (rel:=rel) (t:=tF J tn .b0) (t':=tF J tn .b0) h1 h2 (λi=>⟨rfl,id⟩) (tE hrel);refine⟨tr tn rel vs' J o,D,m,⟨J,rfl⟩,⟨ht.b0,λt=>?_,λt=>(key t).2 (ht.c0 t),ht.a0,ht.e0,ht.f0⟩,rfl,rfl,hi,λ_ _ _ _ _ _ h=>h⟩;exact(ht.d0 t).trans (key t).1.symm
theorem wL{f:AV->Option AV}(hu:f bt=some bt){v v':AV}(hv:f v=some v'):∀{d:Nat} {t t':Ts} {i:Nat},xB f t=some t'->xB f (Ts.k0 d t i v)=some (Ts.k0 d t' i v')
 | 0,t,t',i,h=>h
 | d+1,t,t',i,h=>by
   have parts:f t.n0=some t'.n0/\xB f t.m0=some t'.m0/\xB f t.h0=some t'.h0:=by
    cases t with
    | b0=>cases h;exact⟨hu,rfl,rfl⟩
    | c0 x l r=>
      simp only[xB,ag,zAc]at h;obtain⟨x',hx,l',hl,r',hr,rfl⟩:=h;exact⟨hx,hl,hr⟩
   obtain⟨p1,p2,p3⟩:=parts;unfold Ts.k0;cases Nat.beq i 0 with
   | true=>simp only[cond_true,xB,hv,p2,p3,ob]
   | false=>
     simp only[cond_false];cases Nat.beq (i%2) 1 with
     | true=>simp only[cond_true,xB,p1,wL hu hv (d:=d) p2,p3,ob]
     | false=>simp only[cond_false,xB,p1,wL hu hv (d:=d) p3,p2,ob]
theorem GI{f:AV->Option AV}(hu:f bt=some bt)(ha:∀v,f (.i v)=some (.i v)){J:Nat->Value}:∀{n:Nat} {t:Ts},xB f t=some t->xB f (tF J n t)=some (tF J n t)
 | 0,t,h=>h
 | n+1,t,h=>GI (n:=n) (t:=Ts.k0 20 t n (.i (J n))) hu ha (wL hu (ha (J n)) h)
theorem F3{f:AV->Option AV}(hu:f bt=some bt):∀{rel:List Nat} {vs vs':List AV} {t t':Ts},yw f vs=some vs'->xB f t=some t'->xB f (iY rel vs t)=some (iY rel vs' t')
 | [],vs,vs',t,t',_,h=>by cases vs<;>cases vs'<;>exact h
 | r::rel,[],vs',t,t',hv,h=>by cases hv;exact h
 | r::rel,v::vs,vs',t,t',hv,h=>by
   simp only[yw,ag,zAc]at hv;obtain⟨v1,h1,vs1,h2,rfl⟩:=hv;exact F3 (rel:=rel) (vs:=vs) (vs':=vs1) hu h2 (wL hu h1 h)
theorem VW.d0(hK:qX cfg){tn:Nat}{sel:List Nat}(hlow:Ns C)(hkb:kb<=o.n)
 (hsel:∀s∈sel,kb<=s/\s<o.n) (hnd:sel.Nodup)
 (hle:∀p∈o.le,cR (C.lo+kb) p.2) (hle':o'.le=o.le) (hn:o'.n=kb+sel.length) (hlen:o'.os.length=o'.n)
 (hold:∀i,i<kb->o'.at i=o.at i/\cR (C.lo+kb) (o.at i))
 (hnew:∀t,t<sel.length->WD (C.lo+kb) (io C.lo kb sel) (o.at (sel.getD t 0)) (o'.at (kb+t)))
 (hvs:yw (kG (C.lo+kb) (io C.lo kb sel) 20) vs=some vs'):VW cfg C kb tn rel vs o vs' o':=by
 intro J;have hts:xB (kG (C.lo+kb) (io C.lo kb sel) 20) (tr tn rel vs J o).ts=some (iY rel vs' (tF J tn .b0)):=F3 (f:=kG (C.lo+kb) (io C.lo kb sel) 20) (rel:=rel) rfl hvs (GI (f:=kG (C.lo+kb) (io C.lo kb sel) 20) (n:=tn) (t:=.b0) rfl (λ_=>rfl) rfl);refine(oX hK (st:=tr tn rel vs J o) hlow hkb hsel hnd hle hle' hn hlen hold hnew hts (λd hd=>by cases hd) (λi hi=>by cases hi)).b0 λs hs=>⟨J,?_⟩;rw[hs];rfl
end
section
variable{P:Program}{T:fm}{cfg:cL}(g:nG P T cfg){orcT:zy}(ho:Bt cfg orcT){L:cx}{C:bg}
include g ho
theorem IS{tn:Nat}(htn:tn<1000000)(hrel:nP tn rel)(hL:qI P cfg C L b){ι:Type}(vals:ι->List AV)(own:ι->aB)(μ:ι->Nat)(hkb:∀x,kb<=(own x).n){Q:AX×List AV×aB->Prop}
 (hr:∀x J,(xz T cfg orcT L n C b (tr tn rel (vals x) J (own x)) (Gg tn rel .a0)).wp λq=>match q.1 with
   | .a=>∃y,μ y<μ x/\VW cfg C kb tn rel q.2.1 q.2.2 (vals y) (own y)
   | ax=>∃vs2 o2,VW cfg C kb tn rel q.2.1 q.2.2 vs2 o2/\Q (ax,vs2,o2)) {vs:List AV} {o:aB} (hk:o.n<=kb) (h0:∀J,Wk cfg C kb (tr tn rel vs J o) λs=>∃x J',s=tr tn rel (vals x) J' (own x)) (J:Nat->Value) :
 bN P cfg C (.loop b) (tr tn rel vs J o) λr=>∃ax vs' o' J',Q (ax,vs',o')/\r=(ax,tr tn rel vs' J' o'):=by
 have hnone:∀{r:AX×St} {s:St},r.2.ro=s.ro->s.ro=none->r.2.ro=none:=λh1 h2=>h1.trans h2;refine Lt (k:=kb) (Q':=λr=>(∃vs2 o2,VW cfg C kb tn rel (jP r.2 rel) r.2.o vs2 o2/\Q (r.1,vs2,o2))/\r.2.tn=tn/\r.2.ds=[]/\r.2.ro=none) ?_ hk ?_
 . refine JK (k:=kb) μ (λx s=>∃J',s=tr tn rel (vals x) J' (own x)) (h0 J) hk ?_;rintro x s ⟨J1,rfl⟩;have hs:=wE g ho hL (hr x J1);have hs2:bN P cfg C b (tr tn rel (vals x) J1 (own x)) λr=>r.2.ro=none/\(Gg tn rel Tr.a0 r).wp λq=>match q.1 with
    | .a=>∃y,μ y<μ x/\VW cfg C kb tn rel q.2.1 q.2.2 (vals y) (own y)
    | ax=>∃vs2 o2,VW cfg C kb tn rel q.2.1 q.2.2 vs2 o2/\Q (ax,vs2,o2):=λD m a w hi ht K hK=>hs D m a w hi ht K λr hq hro=>hK r ⟨hro,hq⟩ hro
   refine hs2.a0 λr ⟨hro,hq⟩=>?_;unfold Gg at hq;cases hb:(Nat.beq r.2.tn tn&&NK r.2.ds)with
   | false=>rw[hb]at hq;exact hq.elim
   | true=>
     rw[hb,cond_true]at hq;rw[zAa,cQ]at hb;have hds:r.2.ds=[]:=by
      have:=hb.2;cases hd:r.2.ds with
      | nil=>rfl
      | cons x xs=>rw[hd]at this;cases this
     simp only[Tr.wp]at hq;unfold qg;cases hx:r.1 with
     | a=>
       rw[hx]at hq;obtain⟨y,hy,hv⟩:=hq;refine(BE htn hrel hb.1 hds hro).c0 λs=>?_;rintro⟨J2,rfl⟩;exact(hv J2).b0 λs2 ⟨J3,e⟩=>⟨y,hy,J3,e⟩
     | b id=>rw[hx]at hq;exact⟨by rw[hx];exact hq,hb.1,hds,hro⟩
     | c=>rw[hx]at hq;exact⟨by rw[hx];exact hq,hb.1,hds,hro⟩
 . rintro r ⟨⟨vs2,o2,hv,hq⟩,h1,h2,h3⟩;refine(BE htn hrel h1 h2 h3).c0 λs=>?_;rintro⟨J2,rfl⟩;exact(hv J2).b0 λs ⟨J3,e⟩=>⟨_,_,_,J3,hq,by rw[e]⟩
omit ho in
theorem bR{tn:Nat}{vw:dW}(htn:tn<1000000)(hrel:nP tn rel)(h:cu P cfg C b tn rel vw){Q:AX×St->Prop}(hw:(d9 tn rel vw st).wp Q):bN P cfg C (.loop b) st Q:=by
 unfold d9 at hw;cases hb:(Nat.beq st.tn tn&&NK st.ds&&VN st.ro)with
 | false=>rw[hb]at hw;exact hw.elim
 | true=>
   rw[hb,cond_true]at hw;rw[zAa,zAa,cQ]at hb;have hds:st.ds=[]:=by
    have:=hb.1.2;cases hd:st.ds with
    | nil=>rfl
    | cons x xs=>rw[hd]at this;cases this
   have hro:st.ro=none:=by
    have:=hb.2;cases hd:st.ro with
    | none=>rfl
    | some x=>rw[hd]at this;cases this
   cases hv:vw (jP st rel) st.o with
   | none=>rw[hv]at hw;exact hw.elim
   | some t=>
     rw[hv]at hw;have hw:=Tr.h0 (t:=t) hw;refine Np (k:=st.o.n) (BE htn hrel hb.1.1 hds hro) (Nat.le_refl _) λs=>?_;rintro⟨J,rfl⟩;refine(h _ _ t _ hv hw J).a0 ?_;rintro r ⟨ax,vs',o',J',hq,rfl⟩;exact hq J'
end
def bz:Code->List (Nat×Code)
 | .seq a b=>bz a++bz b
 | .cond _ a b=>bz a++bz b
 | .block id b=>match b with
   | .loop c=>(id,c)::bz c
   | b=>bz b
 | .loop b=>bz b
 | .scope b=>bz b
 | _=>[]
theorem lS{P:Program}{cfg:cL}{C:bg}{L:cx}:∀{c:Code},(∀p∈bz c,∀e,L p.1=some e->∀st Q,(e st).wp Q->bN P cfg C (.loop p.2) st Q)->qI P cfg C L c
 | .seq a b,h=>by
   simp only[bz,List.mem_append]at h;exact⟨lS λp hp=>h p (.inl hp),lS λp hp=>h p (.inr hp)⟩
 | .cond _ a b,h=>by
   simp only[bz,List.mem_append]at h;exact⟨lS λp hp=>h p (.inl hp),lS λp hp=>h p (.inr hp)⟩
 | .block id b,h=>by
   have hl:∀c,b=.loop c->qI P cfg C L (.block id b):=by
    rintro c rfl;simp only[bz]at h;exact⟨λ_ e he st Q hw=>h (id,c) List.mem_cons_self e he st Q hw,lS (c:=c) λp hp=>h p (List.mem_cons_of_mem _ hp)⟩
   cases b with
   | loop c=>exact hl c rfl
   | _=>exact⟨λhb=>(by cases hb),lS (by simpa only[bz]using h)⟩
 | .loop b,h=>lS (c:=b) (by simpa only[bz]using h)
 | .scope b,h=>lS (c:=b) (by simpa only[bz]using h)
 | .skip,_=>trivial
 | .region _ _ _,_=>trivial
 | .exit _,_=>trivial
 | .label _,_=>trivial
 | .goto _,_=>trivial
 | .ret,_=>trivial
 | .refuse _,_=>trivial
 | .rangeFunc _ _ _ _,_=>trivial
end Go.Ev
end
section
namespace Go.Ev
open Go Go.Proofs
variable{ws news:List aD}{v':AV}{o:aB}{f:Nat}{args:List AV}{S:aQ}{C:bg}{cfg':cL}{e:dP}
noncomputable def dH(f:Nat):Func:=match bj tab f with
 | some p=>p.1
 | none=>default
noncomputable def aL(f:Nat):Code:=match bj tab f with
 | some p=>p.2
 | none=>.skip
noncomputable def lb(f i:Nat):Code:=((bz (aL f)).getD i (0,.skip)).2
abbrev VQ:Type:=AX×List AV×aB
abbrev EQ:Type:=AV×aB
def jE:cx:=λ_=>none
def iz(L:cx)(id:Nat)(e:St->Tr (AX×St)):cx:=λj=>bif Nat.beq j id then some e else L j
abbrev dO:aB:=⟨0,[],[]⟩
noncomputable def QJ(ws:List aD)(f:Nat)(x:AX×St):Tr EQ:=aT (wj tab (Cw cfg ws) (dH f) x) .a0
noncomputable def rT(S:aQ)(L:cx)(ws:List aD)(f i tn:Nat)(rel:List Nat)(vals:List AV)(J:Nat->Value)(o:aB):Tr VQ:=xz tab (cH cfg S) (tK S) L 1000 (Cw cfg ws) (lb f i) (tr tn rel vals J o) (Gg tn rel .a0)
noncomputable def bT(S:aQ)(L:cx)(ws:List aD)(f:Nat)(args:List AV):Tr EQ:=xz tab (cH cfg S) (tK S) L 1000 (Cw cfg ws) (aL f) (jS (dH f) args dO) (QJ ws f)
def A3:List (Nat×aD)->Bool
 | []=>true
 | _=>false
noncomputable def Qf(f:Nat)(x:AX×St):Tr AV:=aT (wj tab (Cw cfg []) (dH f) x) λr=>bif A3 r.2.le&&(kG 14 [] 20 r.1).isSome then .a0 r.1 else .c0
noncomputable def pT(S:aQ)(L:cx)(f:Nat)(args:List AV):Tr AV:=xz tab (cH cfg S) (tK S) L 1000 (Cw cfg []) (aL f) (jS (dH f) args dO) (Qf f)
theorem Az:∀id,id<cfg.a0.n->Ep (cfg.a0.at id)=false:=by decide
def dL(ws:List aD)(v:AV)(news:List aD)(r:EQ):Prop:=Wk cfg (Cw cfg ws) 0 ⟨.c0 r.1 .b0 .b0,1,r.2,[],none⟩ λs=>s.o=⟨news.length,news,[]⟩/\s.ts.a0 0=v
theorem dL.c0{v:AV}:dL ws v news (v,⟨news.length,news,[]⟩):=Wk.a0 ⟨rfl,rfl⟩
theorem dL.of{v:AV}(h1:v'=v)(h2:o=⟨news.length,news,[]⟩):dL ws v news (v',o):=by subst h1 h2;exact dL.c0
theorem zW:Ns (Cw cfg []):=λid hid=>by
 have h14:id<cfg.a0.n:=hid;have:gB (Cw cfg []).B id=cfg.a0.at id:=by
  simp only[Cw,gB];rw[jT (by omega)];simp only[cond_false,fp];rw[bx.2 (Nat.zero_le _),cond_true,Nat.sub_zero]
 rw[this];exact⟨dI.lv.a0 id h14,λi hi=>dI.lv.b0 id h14 i hi⟩
theorem Ih{b:Nat}{ρ:List (Nat×Nat)}:∀{d:Nat} {v v':AV},kG b ρ d v=some v'->aC v=[]->v'=v:=by
 intro d;induction d with
 | zero=>intro v v' h;cases h
 | succ d ih=>
   have ihl:∀{vs vs':List AV},yw (kG b ρ d) vs=some vs'->bw vs=[]->vs'=vs:=by
    intro vs;induction vs with
    | nil=>intro vs' h _;cases h;rfl
    | cons v vs ihv=>
      intro vs' h hi;simp only[yw,ag,zAc]at h;obtain⟨v1,h1,vs1,h2,rfl⟩:=h;simp only[bw,List.append_eq_nil_iff]at hi;rw[ih h1 hi.1,ihv h2 hi.2]
   intro v v' h hi;unfold kG at h;cases v<;>simp only[ag,zAc]at h<;>simp only[aC,List.append_eq_nil_iff,reduceCtorEq,List.cons_ne_self]at hi
   case j f a c=>obtain⟨a',ha,c',hc,rfl⟩:=h;rw[ihl ha hi.1,ihl hc hi.2]
   case k t u=>obtain⟨u',hu,rfl⟩:=h;rw[ih hu hi]
   case h cs=>obtain⟨a',ha,rfl⟩:=h;rw[ihl ha hi]
   case e cs=>obtain⟨a',ha,rfl⟩:=h;rw[ihl ha hi]
   all_goals exact h.symm
theorem dL.b0{v:AV}(h1:v'=v)(hi:aC v=[])(hm:(kG 14 [] 20 v).isSome)(hle:o.le=[]):dL [] v [] (v',o):=by
 subst h1;obtain⟨u,hu⟩:=Option.isSome_iff_exists.1 hm;have e:=Ih hu hi;subst e;refine(oX dI.lv (C:=Cw cfg []) (st:=⟨.c0 u .b0 .b0,1,o,[],none⟩) (kb:=0) (sel:=[]) (ts':=.c0 u .b0 .b0) (o':=dO) zW (Nat.zero_le _) (λs hs=>by cases hs) List.nodup_nil (λp hp=>by rw[show(⟨.c0 u .b0 .b0,1,o,[],none⟩:St).o=o from rfl,hle]at hp;cases hp) hle.symm rfl rfl (λi hi=>absurd hi (Nat.not_lt_zero i)) (λt ht=>absurd ht (Nat.not_lt_zero t)) ?_ (λd hd=>by cases hd) (λi hi=>by cases hi)).b0 λs hs=>?_
 . have hu':kG ((Cw cfg []).lo+0) (io (Cw cfg []).lo 0 []) 20 u=some u:=hu;simp only[xB,hu',ob]
 . rw[hs];exact⟨rfl,rfl⟩
section
variable{S:aQ}(hS:ak Tryz.prog cfg S){L:cx}{ws:List aD}
include hS
theorem ia{i tn:Nat}{rel:List Nat}(htn:aS tn 1000000)(hrel:nP tn rel)(hL:qI Tryz.prog (cH cfg S) (Cw cfg ws) L (lb f i)){ι:Type}(vals:ι->List AV)(own:ι->aB)(μ:ι->Nat)(kb:Nat)(hkb:∀x,kb<=(own x).n){Q:VQ->Prop}
 (hr:∀x J,(rT S L ws f i tn rel (vals x) J (own x)).wp λq=>match q.1 with
   | .a=>∃y,μ y<μ x/\VW cfg (Cw cfg ws) kb tn rel q.2.1 q.2.2 (vals y) (own y)
   | ax=>∃vs2 o2,VW cfg (Cw cfg ws) kb tn rel q.2.1 q.2.2 vs2 o2/\Q (ax,vs2,o2)) {vs:List AV} {o:aB} (hk:o.n<=kb) (h0:∀J,Wk cfg (Cw cfg ws) kb (tr tn rel vs J o) λs=>∃x J',s=tr tn rel (vals x) J' (own x)) (J:Nat->Value) :
 bN Tryz.prog (cH cfg S) (Cw cfg ws) (.loop (lb f i)) (tr tn rel vs J o) λr=>∃ax vs' o' J',Q (ax,vs',o')/\r=(ax,tr tn rel vs' J' o'):=by
 have hW:∀{k:Nat} {st:St} {A:St->Prop},Wk cfg (Cw cfg ws) k st A->Wk (cH cfg S) (Cw cfg ws) k st A:=λh D m a w hi ht=>by
  obtain⟨s,D',m',hA,h1,h2,h3,h4,h5⟩:=h D m a w (dX.to (cfg:=cH cfg S) (cfg':=cfg) rfl rfl hi) ht;exact⟨s,D',m',hA,h1,h2,h3,dX.to (cfg:=cfg) (cfg':=cH cfg S) rfl rfl h4,λD0 m0 o0 w0 ho hl he=>dw.to (cfg:=cfg) (cfg':=cH cfg S) rfl rfl (h5 D0 m0 o0 w0 ho hl (dw.to (cfg:=cH cfg S) (cfg':=cfg) rfl rfl he))⟩
 refine IS (cC.a0 hS) (nj cfg S) (kb:=kb) (n:=1000) (aU.1 htn) hrel hL vals own μ hkb (λx J=>?_) hk (λJ=>hW (h0 J)) J;refine Tr.i0 (λq hq=>?_) (hr x J);revert hq;cases q.1 with
 | a=>exact λ⟨y,hy,hv⟩=>⟨y,hy,λJ=>hW (hv J)⟩
 | b id=>exact λ⟨vs2,o2,hv,h⟩=>⟨vs2,o2,λJ=>hW (hv J),h⟩
 | c=>exact λ⟨vs2,o2,hv,h⟩=>⟨vs2,o2,λJ=>hW (hv J),h⟩
theorem Bu{v:AV}(hb:bj tab f=some (dH f,aL f))(hlen:args.length<=1000)(hL:qI Tryz.prog (cH cfg S) (Cw cfg ws) L (aL f))
 (h:(bT S L ws f args).wp (dL ws v news)):bu Tryz.prog cfg f args ws v news:=by
 refine cC.c0 hS hb hlen ((wE (cC.a0 hS) (nj cfg S) hL h).a0 λx hx=>?_);have hx:(QJ ws f x).wp (dL ws v news):=hx;unfold QJ at hx;cases he:wj tab (Cw cfg ws) (dH f) x with
 | none=>rw[he]at hx;exact hx.elim
 | some r=>rw[he]at hx;exact⟨r,rfl,hx⟩
end
theorem kV(hS:ak Tryz.prog cfg S){L:cx}{v:AV}(hb:bj tab f=some (dH f,aL f))(hlen:args.length<=1000)(hL:qI Tryz.prog (cH cfg S) (Cw cfg []) L (aL f))
 (h:(pT S L f args).wp (·=v)) (hi:aC v=[]):bu Tryz.prog cfg f args [] v []:=by
 refine cC.c0 hS hb hlen ((wE (cC.a0 hS) (nj cfg S) hL h).a0 λx hx=>?_);have hx:(Qf f x).wp (·=v):=hx;unfold Qf at hx;cases he:wj tab (Cw cfg []) (dH f) x with
 | none=>rw[he]at hx;exact hx.elim
 | some r=>
   rw[he]at hx;have hx:(bif A3 r.2.le&&(kG 14 [] 20 r.1).isSome then Tr.a0 r.1 else .c0).wp (·=v):=hx;cases hb:(A3 r.2.le&&(kG 14 [] 20 r.1).isSome)with
   | false=>rw[hb]at hx;exact hx.elim
   | true=>
     rw[hb,cond_true]at hx;have hx:r.1=v:=hx;rw[zAa]at hb;have hle:r.2.le=[]:=by
      have:=hb.1;cases hr:r.2.le with
      | nil=>rfl
      | cons a b=>rw[hr]at this;cases this
     exact⟨r,rfl,dL.b0 hx hi (by rw[<-hx];exact hb.2) hle⟩
theorem wM{R:Type}{b:Bool}{t:Tr R}{Q:R->Prop}(h:(fO b t).wp Q):b/\t.wp Q:=by
 cases b with
 | true=>exact⟨rfl,h⟩
 | false=>exact h.elim
def jv(l:List Value)(j:Nat):Value:=l.getD j undef
def aH{R:Type}:List Bool->Tr R->Tr R
 | [],t=>t
 | c::cs,t=>fO c (aH cs t)
theorem cZ{R:Type}{c:Bool}{cs:List Bool}{t:Tr R}{Q:R->Prop}(h:(aH (c::cs) t).wp Q):c/\(aH cs t).wp Q:=wM h
theorem bO{R:Type}{c:Bool}{cs:List Bool}{t:Tr R}{s:R}(h:(aH (c::cs) t).b0=some s):c/\(aH cs t).b0=some s:=bG h
def Tk:List Bool->Prop
 | []=>True
 | c::cs=>c/\Tk cs
theorem cO{R:Type}{t:Tr R}{Q:R->Prop}:∀{cs:List Bool},(aH cs t).wp Q->Tk cs/\t.wp Q
 | [],h=>⟨trivial,h⟩
 | _::_,h=>by
   obtain⟨h1,h⟩:=cZ h;obtain⟨h2,h⟩:=cO h;exact⟨⟨h1,h2⟩,h⟩
theorem aF{R:Type}{t:Tr R}{s:R}:∀{cs:List Bool},(aH cs t).b0=some s->Tk cs/\t.b0=some s
 | [],h=>⟨trivial,h⟩
 | _::_,h=>by
   obtain⟨h1,h⟩:=bO h;obtain⟨h2,h⟩:=aF h;exact⟨⟨h1,h2⟩,h⟩
theorem e8{R:Type}{t:Tr R}{Q:R->Prop}(h:∀Q':R->Prop,(∀q,Q q->Q' q)->t.wp Q'):t.wp Q:=h Q λ_ h=>h
theorem ai{P:Program}{c:Code}:qI P cfg' C jE c:=lS λp _ e he=>by cases he
theorem dv{P:Program}{L:cx}{c:Code}{ids:List Nat}(hids:(bz c).map (·.1)=ids)(h:∀i,i<ids.length->∀e,L (ids.getD i 0)=some e->∀st Q,(e st).wp Q->bN P cfg' C (.loop ((bz c).getD i (0,.skip)).2) st Q):qI P cfg' C L c:=by
 refine lS λp hp e he st Q hw=>?_;obtain⟨i,hi⟩:=List.getElem?_of_mem hp;have hlen:i<(bz c).length:=(List.getElem?_eq_some_iff.1 hi).1;have hid:ids.getD i 0=p.1:=by
  rw[<-hids,zAd,List.getElem?_map,hi];rfl
 have:=h i (by rw[<-hids];simpa using hlen) e (by rw[hid];exact he) st Q hw;rw[zAd,hi]at this;exact this
theorem pf{s:List UInt8}{i:Nat}(h:i<s.length):s.take (i+1)=s.take i++[s.getD i 0]:=by
 rw[List.take_add_one,List.getElem?_eq_getElem h,zAd,List.getElem?_eq_getElem h];rfl
theorem Kt{α:Type}(s:List α):s.take s.length=s:=List.take_length
def plainW(e:dP):kS:=λargs ws=>match ws with
 | []=>ob (e args) λt=>some (t.j0 λv=>.a0 (v,[]))
 | _=>none
theorem Iy{P:Program}(h:∀args t v,e args=some t->t.b0=some v->bu P cfg f args [] v []):tD P cfg f (fl cfg.a0.n [] (plainW e)):=by
 refine fW dI.lv Az λargs ws t r ht hr=>?_;unfold plainW at ht;split at ht
 . rw[ag]at ht;obtain⟨t0,h0,ht⟩:=ht;cases ht;obtain⟨v,hv,h2⟩:=Tr.g0 hr;cases h2;exact⟨h args t0 v h0 hv,λx hx=>by cases hx⟩
 . cases ht
def bb(S:aQ)(f:Nat)(e:dP):aQ:=eQ S f (fl 14 [] (plainW e))
theorem au(h:ak Tryz.prog cfg S)(he:∀args t v,e args=some t->t.b0=some v->bu Tryz.prog cfg f args [] v []):ak Tryz.prog cfg (bb S f e):=bm h (Iy he)
theorem jJ{A:Type}{t:Tr A}{P:A->Prop}(D:DT){R:(A->Prop)->Prop}(hk:∀Q,gG Q t D=R Q)(h:∀Q:A->Prop,(∀q,P q->Q q)->R Q):t.wp P:=e8 λQ hQ=>cg ((hk Q).mpr (h Q hQ))
theorem jD(hS:ak Tryz.prog cfg S){L:cx}{v:AV}(hL:qI Tryz.prog (cH cfg S) (Cw cfg []) L (aL f))(D:DT){R:(AV->Prop)->Prop}(hk:∀Q,gG Q (pT S L f args) D=R Q)(h:∀Q:AV->Prop,(∀q,q=v->Q q)->R Q)(hb:bj tab f=some (dH f,aL f):=by kernel_rfl)(hlen:args.length<=1000:=by simp)(hi:aC v=[]:=by simp[aC,bw]):bu Tryz.prog cfg f args [] v []:=
 kV hS hb hlen hL (e8 λQ hQ=>cg ((hk Q).mpr (h Q hQ))) hi
theorem nF(hS:ak Tryz.prog cfg S){L:cx}{v:AV}(hL:qI Tryz.prog (cH cfg S) (Cw cfg []) L (aL f))(D:DT){R:(AV->Prop)->Prop}(hk:∀Q,gG Q (pT S L f args) D=R Q)(h:∀Q:AV->Prop,Q v->R Q)(hb:bj tab f=some (dH f,aL f):=by kernel_rfl)(hlen:args.length<=1000:=by simp)(hi:aC v=[]:=by simp[aC,bw]):bu Tryz.prog cfg f args [] v []:=
 jD hS hL D hk (λQ hQ=>h Q (hQ v rfl)) hb hlen hi
theorem Cs(hS:ak Tryz.prog cfg S){L:cx}{v:AV}(hL:qI Tryz.prog (cH cfg S) (Cw cfg ws) L (aL f))(D:DT){R:(EQ->Prop)->Prop}(hk:∀Q,gG Q (bT S L ws f args) D=R Q)(h:∀Q:EQ->Prop,(∀q,dL ws v news q->Q q)->R Q)(hb:bj tab f=some (dH f,aL f):=by kernel_rfl)(hlen:args.length<=1000:=by simp):bu Tryz.prog cfg f args ws v news:=
 Bu hS hb hlen hL (e8 λQ hQ=>cg ((hk Q).mpr (h Q hQ)))
def aY(s:List UInt8)(a b:Int):Nat:=(s.filter λc=>decide (a<=(c.toNat:Int))&&decide ((c.toNat:Int)<=b)).length
theorem rP(s:List UInt8)(a b:Int):aY s a b<=s.length:=List.length_filter_le _ _
theorem H_{s:List UInt8}{a b:Int}{i:Nat}(h:i<s.length):aY (s.take (i+1)) a b=aY (s.take i) a b+if a<=((s.getD i 0).toNat:Int)/\((s.getD i 0).toNat:Int)<=b then 1 else 0:=by
 unfold aY;rw[pf h,List.filter_append,zAg];congr 1
 split
 . rename_i h2;simp only[List.filter,h2.1,h2.2];rfl
 . rename_i h2;by_cases h3:a<=((s.getD i 0).toNat:Int)
   . have h4:¬((s.getD i 0).toNat:Int)<=b:=λh=>h2 ⟨h3,h⟩;simp only[List.filter,h3,h4];rfl
   . simp only[List.filter,h3];rfl
def S9:dW:=λvs o=>match vs,o with
 | [.d s,.a .u8 a,.a .u8 b,.a .i64 n,.a .i64 i],⟨0,[],[]⟩=>some (fO (Nat.ble s.length 1000000) (fO (aa n 0) (fO (aa i 0) (.a0 (.b 0,[.d s,.a .u8 a,.a .u8 b,.a .i64 (Int.ofNat (aY s a b)),.a .i64 (Int.ofNat s.length)],dO)))))
 | _,_=>none
def X_:cx:=iz jE 0 (d9 30 [0,1,2,7,8] S9)
def Ws:dP:=λargs=>match args with
 | [.d s,.a .u8 a,.a .u8 b]=>some (fO (Nat.ble s.length 1000000) (.a0 (.a .i64 (Int.ofNat (aY s a b)))))
 | _=>none
def T1:aQ:=bb S7 121 Ws
def ZO(s:List UInt8)(a b n:Int)(i:Nat)(J:Nat->Value){Q:VQ->Prop}:gG Q (rT S7 jE [] 121 0 30 [0,1,2,7,8] [.d s,.a .u8 a,.a .u8 b,.a .i64 n,.a .i64 (Int.ofNat i)] J dO) (bE 1120338121224270224204)=((λ(E F G O:AV)(C I N:Int)(H:Nat)=>(λ(A P:Bool)(T:Int)=>(λ(V:AV)(U:Bool)(B:Prop)=>(λ(W:Prop)=>(P->aS i H/\(A->A/\A/\aS i H/\A/\A/\A/\(ab I b->af .i64 N/\U/\Q (.a,[E,F,G,.a .i64 N,V],⟨0,[],[]⟩))/\(ab I b=false->W))/\(B->B/\B/\B/\B/\B/\W))/\(P=false->Q (.b 0,[E,F,G,O,.a .i64 C],⟨0,[],[]⟩))) (U/\Q (.a,[E,F,G,O,V],⟨0,[],[]⟩))) (.a .i64 T) (af .i64 T) (A=false)) (ab a I) (not (ab (Int.ofNat H) C)) (Int.add C 1)) (.d s) (.a .u8 a) (.a .u8 b) (.a .i64 n) (Int.ofNat i) (Int.ofNat (UInt8.toNat (List.getD s i 0))) (Int.add n 1) s.length):=by kernel_rfl
theorem Vg:cu Tryz.prog (cH cfg S7) (Cw cfg []) (lb 121 0) 30 [0,1,2,7,8] S9:=by
 intro vs o t Q hv hq J;unfold S9 at hv;split at hv
 . rename_i s a b n i;cases hv;obtain⟨h1,hq⟩:=wM hq;obtain⟨h2,hq⟩:=wM hq;obtain⟨h3,hq⟩:=wM hq;rw[al]at h1;rw[ao]at h2 h3;subst h2 h3;refine ia vQ rfl rfl ai (ι:={i:Nat // i<=s.length}) (λx=>[.d s,.a .u8 a,.a .u8 b,.a .i64 (Int.ofNat (aY (s.take x.1) a b)),.a .i64 (Int.ofNat x.1)]) (λ_=>dO) (λx=>s.length-x.1) 0 (λ_=>Nat.le_refl _) (λx J=>?_) (Nat.le_refl _) (λJ=>Wk.a0 ⟨⟨0,Nat.zero_le _⟩,J,rfl⟩) J;obtain⟨i,hi⟩:=x;dsimp only;have hn:=rP (s.take i) a b;rw[List.length_take]at hn;have hsn:=@H_ s a b i;refine e8 λQ' hQ=>cg ((ZO s a b _ i J).mpr ?_);simp only[az,reduceCtorEq]
   (repeat' first|exact trivial|refine⟨?_,?_⟩|intro)<;>first|omega|refine hQ _ ?_
   . have h:=hsn (by omega);rw[if_pos ⟨by assumption,by assumption⟩]at h;exact⟨⟨i+1,by omega⟩,by dsimp only;omega,VW.a0 (by dsimp only;rw[h];rfl) rfl⟩
   . have h:=hsn (by omega);rw[if_neg (by omega)]at h;exact⟨⟨i+1,by omega⟩,by dsimp only;omega,VW.a0 (by dsimp only;rw[h];rfl) rfl⟩
   . have h:=hsn (by omega);rw[if_neg (by omega)]at h;exact⟨⟨i+1,by omega⟩,by dsimp only;omega,VW.a0 (by dsimp only;rw[h];rfl) rfl⟩
   . obtain rfl:i=s.length:=by omega
     rw[Kt];exact⟨_,_,VW.b0,hq⟩
 . cases hv
def ON:bj tab 121=some (dH 121,aL 121):=by kernel_rfl
def Mn:(bz (aL 121)).map (·.1)=[0]:=by kernel_rfl
theorem U0(s:List UInt8)(a b:Int)(h:s.length<=1000000):bu Tryz.prog cfg 121 [.d s,.a .u8 a,.a .u8 b] [] (.a .i64 (Int.ofNat (aY s a b))) []:=by
 refine Bu vQ (L:=X_) ON (by simp) (dv Mn λi hi e he st Q hw=>?_) ?_
 . have hi:i=0:=by simp at hi;omega
   subst hi;cases he;exact bR (cC.a0 vQ) (by decide) rfl Vg hw
 . refine jJ (bE 1002) (R:=λQ=>Nat.ble s.length 1000000/\(∀J1:Nat->Value,Q (.a .i64 (Int.ofNat (aY s a b)),⟨0,[],[]⟩))) (λ_=>by kernel_rfl) λQ' hQ=>?_;simp only[az,reduceCtorEq]
   (repeat' first|exact trivial|refine⟨?_,?_⟩|intro)<;>first|omega|refine hQ _ ?_
   exact dL.of rfl rfl
theorem WO:ak Tryz.prog cfg T1:=au vQ λargs t v he hv=>by
 unfold Ws at he;split at he
 . cases he;obtain⟨h1,h2⟩:=bG hv;cases h2;exact U0 _ _ _ (al.mp h1)
 . cases he
end Go.Ev
end
