import Derived.Test.YtcffhjfdlflbgaaGreatDoorP15
set_option linter.all false
open Int renaming ofNat->ν,add->χ
open Nat renaming ble->ξ,lt_of_lt_of_le->ς,le_refl->τ,beq->υ
open List renaming take_of_length_le->ο,mem_cons_of_mem->π,mem_cons_self->σ
set_option linter.all false
set_option maxRecDepth 100000
set_option maxHeartbeats 4000000
section
namespace Go.Ev
open Go Go.RowKit
variable{rel:List Nat}{st:St}{kb:Nat}{vs vs':List AV}{o':aB}
def tF(J:Nat->Value):Nat->Ts->Ts
 | 0,t=>t
 | n+1,t=>tF J n (Ts.k0 20 t n (.j (J n)))
def iY:List Nat->List AV->Ts->Ts
 | i::is,v::vs,t=>iY is vs (Ts.k0 20 t i v)
 | _,_,t=>t
def tr(tn:Nat)(rel:List Nat)(vals:List AV)(J:Nat->Value)(o:aB):St:=⟨iY rel vals (tF J tn .a0),tn,o,[],none⟩
def jP(st:St):List Nat->List AV
 | []=>[]
 | i::is=>st.ts.b0 i::jP st is
def NK:List Nat->Bool
 | []=>true
 | _=>false
def VN:Option Nat->Bool
 | none=>true
 | _=>false
def Gg{R:Type}(tn:Nat)(rel:List Nat)(K:AX×List AV×aB->Tr R)(r:AX×St):Tr R:=bif υ r.2.tn tn&&NK r.2.ds then K (r.1,jP r.2 rel,r.2.o)else .c0
abbrev dW:Type:=List AV->aB->Option (Tr (AX×List AV×aB))
def d9(tn:Nat)(rel:List Nat)(vw:dW)(st:St):Tr (AX×St):=
 bif υ st.tn tn&&NK st.ds&&VN st.ro then aT (vw (jP st rel) st.o) λt=>t.l0 λq=>.e0 λJ=>.a0 (q.1,tr tn rel q.2.1 J q.2.2)else .c0
def cu(P:Program)(cfg:cL)(C:bg)(b:Code)(tn:Nat)(rel:List Nat)(vw:dW):Prop:=
 ∀vs o t Q,vw vs o=some t->t.wp Q->∀J,bN P cfg C (.loop b) (tr tn rel vs J o) λr=>∃ax vs' o' J',Q (ax,vs',o')/\r=(ax,tr tn rel vs' J' o')
theorem G5{J:Nat->Value}:∀{n:Nat} {t:Ts} {i:Nat},n<1000000->(tF J n t).b0 i=if i<n then .j (J i)else t.b0 i
 | 0,t,i,_=>by rfl
 | n+1,t,i,h=>by
   have hk:n<2^20-1:=ς δ (by decide:1000000<=2^20-1);rw[tF,G5 δ,Ts.e0 20 _ _ _ _ hk];grind
theorem Hg{f:Nat->AV}:∀{rel:List Nat} {vs:List AV} {t:Ts} {i:Nat},vs.length=rel.length->(∀k,k<rel.length->vs.getD k bt=f (rel.getD k 0))->(∀k∈rel,k<1000000)->(iY rel vs t).b0 i=if i∈rel then f i else t.b0 i
 | [],vs,t,i,_,_,_=>by rfl
 | r::rel,[],t,i,h,_,_=>by grind
 | r::rel,v::vs,t,i,h,hf,hr=>by
   have hk:r<2^20-1:=ς (hr r σ) (by decide:1000000<=2^20-1);rw[iY,Hg (f:=f) η (λk hk=>by simpa using hf (k+1) η) (λk hk=>hr k (π _ hk)),Ts.e0 20 _ _ _ _ hk];grind
theorem qt(st:St):∀rel:List Nat,jP st rel=rel.map st.ts.b0
 | []=>rfl
 | i::is=>by simp[jP,qt st is]
theorem tE{n:Nat}:∀{l:List Nat},nP n l->∀k∈l,k<n
 | [],_,k,hk=>by grind
 | x::xs,h,k,hk=>by
   rw[nP,zAa,aU]at h;rcases List.mem_cons.1 hk with rfl|hk
   . omega
   . exact tE h.2 k hk
section
variable{cfg:cL}{C:bg}
theorem BE{k tn:Nat}(ht:tn<1000000)(hrel:nP tn rel)(h1:st.tn=tn)(h2:st.ds=[])(h3:st.ro=none) :
 Wk cfg C k st λs=>∃J,s=tr tn rel (jP st rel) J st.o:=by
 intro D m a w hi htr;have hr:∀k∈rel,k<tn:=tE hrel;have hget:∀i,(iY rel (jP st rel) (tF (λt=>aj m (st.ts.b0 t)) tn .a0)).b0 i=if i∈rel then st.ts.b0 i else if i<tn then .j (aj m (st.ts.b0 i))else bt:=λi=>by
  rw[Hg (f:=st.ts.b0) (by rw[qt];simp) (λk hk=>by grind [qt]) (λk hk=>Nat.lt_trans (hr k hk) ht),G5 ht,Ts.g0]
 refine⟨tr tn rel (jP st rel) (λt=>aj m (st.ts.b0 t)) st.o,D,m,⟨_,rfl⟩,⟨by rw[htr.b0,h1];rfl,λt=>?_,λt=>?_,by rw[htr.a0,h2];rfl,λd hd=>(by cases hd),λi hi=>(by cases hi)⟩,h3.symm,by rw[h3];rfl,hi,λ_ _ _ _ _ _ h=>h⟩
 . show a.tmps.getD t undef=aj m ((iY rel (jP st rel) (tF (λt=>aj m (st.ts.b0 t)) tn .a0)).b0 t);rw[hget t];split
   . exact htr.c0 t
   . split
     . simp only[aj];exact htr.c0 t
     . rename_i h;rw[td];have hs:=htr.b0;grind
 . show dh D m ((iY rel (jP st rel) (tF (λt=>aj m (st.ts.b0 t)) tn .a0)).b0 t);rw[hget t];split
   . exact htr.d0 t
   . split<;>nofun
def VW(cfg:cL)(C:bg)(kb tn:Nat)(rel:List Nat)(vs:List AV)(o:aB)(vs':List AV)(o':aB):Prop:=∀J,Wk cfg C kb (tr tn rel vs J o) λs=>∃J',s=tr tn rel vs' J' o'
theorem VW.a0{tn:Nat}{o:aB}:VW cfg C kb tn rel vs o vs o:=λJ=>Wk.a0 ⟨J,rfl⟩
theorem VW.b0{tn:Nat}{o:aB}(h1:vs=vs')(h2:o=o'):VW cfg C kb tn rel vs o vs' o':=by grind [VW.a0]
inductive sK:List AV->List AV->Prop
 | c0:sK [] []
 | a0 {v:AV} {vs vs':List AV}:sK vs vs'->sK (v::vs) (v::vs')
 | b0 {k:IntKind} {n:Int} {vs vs':List AV}:sK vs vs'->sK (.a k n::vs) (.j (.int k n)::vs')
 | d0 {b:Bool} {vs vs':List AV}:sK vs vs'->sK (.b b::vs) (.j (.bool b)::vs')
 | e0 {s:List UInt8} {vs vs':List AV}:sK vs vs'->sK (.e s::vs) (.j (.string ⟨⟨s⟩⟩)::vs')
 | f0 {v:AV} {c:Value} {vs vs':List AV}:(∀m,aj m v=c)->sK vs vs'->sK (v::vs) (.j c::vs')
theorem sK.ok{D:Nat->Prop}{m:Nat->bv}:∀{vs vs':List AV},sK vs vs'->vs.length=vs'.length/\∀i,aj m (vs'.getD i bt)=aj m (vs.getD i bt)/\(dh D m (vs.getD i bt)->dh D m (vs'.getD i bt)):=by
 intro vs vs' h;have step:∀{v v':AV} {vs vs':List AV},aj m v'=aj m v->(dh D m v->dh D m v')->(vs.length=vs'.length/\∀i,aj m (vs'.getD i bt)=aj m (vs.getD i bt)/\(dh D m (vs.getD i bt)->dh D m (vs'.getD i bt)))->((v::vs).length=(v'::vs').length/\∀i,aj m ((v'::vs').getD i bt)=aj m ((v::vs).getD i bt)/\(dh D m ((v::vs).getD i bt)->dh D m ((v'::vs').getD i bt))):=by
  intro v v' vs vs' h1 h2 h3;refine⟨by grind,λi=>?_⟩;cases i<;>simp_all
 have nid:∀{c:Value},dh D m (.j c):=ek κ;induction h with
 | c0=>simp
 | a0 _ ih=>grind
 | b0 _ ih=>exact step κ (λ_=>nid) ih
 | d0 _ ih=>exact step κ (λ_=>nid) ih
 | e0 _ ih=>exact step κ (λ_=>nid) ih
 | f0 hc _ ih=>exact step (by grind [aj]) (λ_=>nid) ih
theorem Gn{R:AV->AV->Prop}:∀{rel:List Nat} {vs vs':List AV} {t t':Ts},vs.length=vs'.length->(∀i,R (vs.getD i bt) (vs'.getD i bt))->(∀i,R (t.b0 i) (t'.b0 i))->(∀k∈rel,k<1000000)->∀i,R ((iY rel vs t).b0 i) ((iY rel vs' t').b0 i)
 | [],vs,vs',t,t',hl,hv,h,_,i=>by cases vs<;>cases vs'<;>exact h i
 | r::rel,[],[],t,t',hl,hv,h,_,i=>h i
 | r::rel,v::vs,v'::vs',t,t',hl,hv,h,hr,i=>by
   have hk:r<2^20-1:=ς (hr r σ) (by decide:1000000<=2^20-1);refine Gn (rel:=rel) (vs:=vs) (vs':=vs') η (λi=>hv (i+1)) (λi=>?_) (λk hk=>hr k (π _ hk)) i;rw[Ts.e0 20 _ _ _ _ hk,Ts.e0 20 _ _ _ _ hk];split
   . exact hv 0
   grind
 | r::rel,[],_::_,_,_,hl,_,_,_,_=>by grind
 | r::rel,_::_,[],_,_,hl,_,_,_,_=>by grind
theorem VW.c0{tn:Nat}{o:aB}(h:sK vs vs')(hrel:nP 1000000 rel):VW cfg C kb tn rel vs o vs' o:=by
 intro J D m a w hi ht;obtain⟨h1,h2⟩:=h.ok (D:=D) (m:=m);have key:=Gn (R:=λv v'=>aj m v'=aj m v/\(dh D m v->dh D m v')) (rel:=rel) (t:=tF J tn .a0) (t':=tF J tn .a0) h1 h2 (λi=>⟨rfl,id⟩) (tE hrel);refine⟨tr tn rel vs' J o,D,m,⟨J,rfl⟩,⟨ht.b0,λt=>?_,λt=>(key t).2 (ht.d0 t),ht.a0,ht.e0,ht.f0⟩,rfl,rfl,hi,λ_ _ _ _ _ _ h=>h⟩;exact(ht.c0 t).trans (key t).1.symm
theorem wL{f:AV->Option AV}(hu:f bt=some bt){v v':AV}(hv:f v=some v'):∀{d:Nat} {t t':Ts} {i:Nat},xB f t=some t'->xB f (Ts.k0 d t i v)=some (Ts.k0 d t' i v')
 | 0,t,t',i,h=>h
 | d+1,t,t',i,h=>by
   have parts:f t.n0=some t'.n0/\xB f t.m0=some t'.m0/\xB f t.h0=some t'.h0:=by
    cases t with
    | a0=>cases h;exact⟨hu,rfl,rfl⟩
    | c0 x l r=>
      simp only[xB,ag,zAb]at h;obtain⟨x',hx,l',hl,r',hr,rfl⟩:=h;exact⟨hx,hl,hr⟩
   obtain⟨p1,p2,p3⟩:=parts;unfold Ts.k0;cases υ i 0 with
   | true=>grind [xB,ob]
   | false=>
     simp only[cond_false];cases υ (i%2) 1 with
     | true=>simp only[cond_true,xB,p1,wL hu hv (d:=d) p2,p3,ob]
     | false=>simp only[cond_false,xB,p1,wL hu hv (d:=d) p3,p2,ob]
theorem GI{f:AV->Option AV}(hu:f bt=some bt)(ha:∀v,f (.j v)=some (.j v)){J:Nat->Value}:∀{n:Nat} {t:Ts},xB f t=some t->xB f (tF J n t)=some (tF J n t)
 | 0,t,h=>h
 | n+1,t,h=>GI (n:=n) (t:=Ts.k0 20 t n (.j (J n))) hu ha (wL hu (ha (J n)) h)
theorem F3{f:AV->Option AV}(hu:f bt=some bt):∀{rel:List Nat} {vs vs':List AV} {t t':Ts},yw f vs=some vs'->xB f t=some t'->xB f (iY rel vs t)=some (iY rel vs' t')
 | [],vs,vs',t,t',_,h=>by cases vs<;>cases vs'<;>exact h
 | r::rel,[],vs',t,t',hv,h=>by cases hv;exact h
 | r::rel,v::vs,vs',t,t',hv,h=>by
   simp only[yw,ag,zAb]at hv;obtain⟨v1,h1,vs1,h2,rfl⟩:=hv;exact F3 (rel:=rel) (vs:=vs) (vs':=vs1) hu h2 (wL hu h1 h)
theorem VW.d0(hK:qX cfg){tn:Nat}{sel:List Nat}{o:aB}(hlow:Ns C)(hkb:kb<=o.n)
 (hsel:∀s∈sel,kb<=s/\s<o.n) (hnd:sel.Nodup)
 (hle:∀p∈o.le,cR (C.lo+kb) p.2) (hle':o'.le=o.le) (hn:o'.n=kb+sel.length) (hlen:o'.os.length=o'.n)
 (hold:∀i,i<kb->o'.at i=o.at i/\cR (C.lo+kb) (o.at i))
 (hnew:∀t,t<sel.length->WD (C.lo+kb) (fY C.lo kb sel) (o.at (sel.getD t 0)) (o'.at (kb+t)))
 (hvs:yw (kG (C.lo+kb) (fY C.lo kb sel) 20) vs=some vs'):VW cfg C kb tn rel vs o vs' o':=by
 intro J;have hts:xB (kG (C.lo+kb) (fY C.lo kb sel) 20) (tr tn rel vs J o).ts=some (iY rel vs' (tF J tn .a0)):=F3 (f:=kG (C.lo+kb) (fY C.lo kb sel) 20) (rel:=rel) rfl hvs (GI (f:=kG (C.lo+kb) (fY C.lo kb sel) 20) (n:=tn) (t:=.a0) rfl (λ_=>rfl) rfl);refine(oX hK (st:=tr tn rel vs J o) hlow hkb hsel hnd hle hle' hn hlen hold hnew hts (λd hd=>by cases hd) (λi hi=>by cases hi)).b0 λs hs=>⟨J,?_⟩;rw[hs];rfl
end
section
variable{P:Program}{T:fm}{cfg:cL}(g:nG P T cfg){orcT:zy}(ho:Bt cfg orcT){L:cx}{C:bg}
include g ho
theorem IS{n tn:Nat}{b:Code}(htn:tn<1000000)(hrel:nP tn rel)(hL:qI P cfg C L b){ι:Type}(vals:ι->List AV)(own:ι->aB)(μ:ι->Nat)(hkb:∀x,kb<=(own x).n){Q:AX×List AV×aB->Prop}
 (hr:∀x J,(xz T cfg orcT L n C b (tr tn rel (vals x) J (own x)) (Gg tn rel .a0)).wp λq=>match q.1 with
   | .a=>∃y,μ y<μ x/\VW cfg C kb tn rel q.2.1 q.2.2 (vals y) (own y)
   | ax=>∃vs2 o2,VW cfg C kb tn rel q.2.1 q.2.2 vs2 o2/\Q (ax,vs2,o2)) {vs:List AV} {o:aB} (hk:o.n<=kb) (h0:∀J,Wk cfg C kb (tr tn rel vs J o) λs=>∃x J',s=tr tn rel (vals x) J' (own x)) (J:Nat->Value) :
 bN P cfg C (.loop b) (tr tn rel vs J o) λr=>∃ax vs' o' J',Q (ax,vs',o')/\r=(ax,tr tn rel vs' J' o'):=by
 have hnone:∀{r:AX×St} {s:St},r.2.ro=s.ro->s.ro=none->r.2.ro=none:=λh1 h2=>h1.trans h2;refine Lt (k:=kb) (Q':=λr=>(∃vs2 o2,VW cfg C kb tn rel (jP r.2 rel) r.2.o vs2 o2/\Q (r.1,vs2,o2))/\r.2.tn=tn/\r.2.ds=[]/\r.2.ro=none) ?_ hk ?_
 . refine JK (k:=kb) μ (λx s=>∃J',s=tr tn rel (vals x) J' (own x)) (h0 J) hk ?_;rintro x s ⟨J1,rfl⟩;have hs:=wE g ho hL (hr x J1);have hs2:bN P cfg C b (tr tn rel (vals x) J1 (own x)) λr=>r.2.ro=none/\(Gg tn rel Tr.a0 r).wp λq=>match q.1 with
    | .a=>∃y,μ y<μ x/\VW cfg C kb tn rel q.2.1 q.2.2 (vals y) (own y)
    | ax=>∃vs2 o2,VW cfg C kb tn rel q.2.1 q.2.2 vs2 o2/\Q (ax,vs2,o2):=λD m a w hi ht K hK=>hs D m a w hi ht K λr hq hro=>hK r ⟨hro,hq⟩ hro
   refine hs2.a0 λr ⟨hro,hq⟩=>?_;unfold Gg at hq;cases hb:(υ r.2.tn tn&&NK r.2.ds)with
   | false=>rw[hb]at hq;exact hq.elim
   | true=>
     rw[hb,cond_true]at hq;rw[zAa,cQ]at hb;have hds:r.2.ds=[]:=by
      have:=hb.2;cases hd:r.2.ds with
      | nil=>rfl
      | cons x xs=>rw[hd]at this;cases this
     simp only[Tr.wp]at hq;unfold qg;cases hx:r.1 with
     | a=>
       rw[hx]at hq;obtain⟨y,hy,hv⟩:=hq;refine(BE htn hrel hb.1 hds hro).c0 λs=>?_;rintro⟨J2,rfl⟩;exact(hv J2).b0 λs2 ⟨J3,e⟩=>⟨y,hy,J3,e⟩
     | b id=>grind
     | c=>grind
 . rintro r ⟨⟨vs2,o2,hv,hq⟩,h1,h2,h3⟩;refine(BE htn hrel h1 h2 h3).c0 λs=>?_;rintro⟨J2,rfl⟩;exact(hv J2).b0 λs ⟨J3,e⟩=>⟨_,_,_,J3,hq,by rw[e]⟩
omit ho in
theorem bR{b:Code}{tn:Nat}{vw:dW}(htn:tn<1000000)(hrel:nP tn rel)(h:cu P cfg C b tn rel vw){Q:AX×St->Prop}(hw:(d9 tn rel vw st).wp Q):bN P cfg C (.loop b) st Q:=by
 unfold d9 at hw;cases hb:(υ st.tn tn&&NK st.ds&&VN st.ro)with
 | false=>rw[hb]at hw;exact hw.elim
 | true=>
   rw[hb,cond_true]at hw;rw[zAa,zAa,cQ]at hb;have hds:st.ds=[]:=by
    have:=hb.1.2;cases hd:st.ds with
    | nil=>rfl
    | cons x xs=>rw[hd]at this;cases this
   have hro:st.ro=none:=by
    have:=hb.2;cases hd:st.ro with
    | none=>rfl
    | some x=>rw[hd]at this;cases this
   cases hv:vw (jP st rel) st.o with
   | none=>rw[hv]at hw;exact hw.elim
   | some t=>
     rw[hv]at hw;have hw:=Tr.h0 (t:=t) hw;refine Np (k:=st.o.n) (BE htn hrel hb.1.1 hds hro) (τ _) λs=>?_;rintro⟨J,rfl⟩;refine(h _ _ t _ hv hw J).a0 ?_;rintro r ⟨ax,vs',o',J',hq,rfl⟩;exact hq J'
end
def bz:Code->List (Nat×Code)
 | .seq a b=>bz a++bz b
 | .cond _ a b=>bz a++bz b
 | .block id b=>match b with
   | .loop c=>(id,c)::bz c
   | b=>bz b
 | .loop b=>bz b
 | .scope b=>bz b
 | _=>[]
theorem lS{P:Program}{cfg:cL}{C:bg}{L:cx}:∀{c:Code},(∀p∈bz c,∀e,L p.1=some e->∀st Q,(e st).wp Q->bN P cfg C (.loop p.2) st Q)->qI P cfg C L c
 | .seq a b,h=>by
   simp only[bz,List.mem_append]at h;exact⟨lS λp hp=>h p (.inl hp),lS λp hp=>h p (.inr hp)⟩
 | .cond _ a b,h=>by
   simp only[bz,List.mem_append]at h;exact⟨lS λp hp=>h p (.inl hp),lS λp hp=>h p (.inr hp)⟩
 | .block id b,h=>by
   have hl:∀c,b=.loop c->qI P cfg C L (.block id b):=by
    rintro c rfl;simp only[bz]at h;exact⟨λ_ e he st Q hw=>h (id,c) σ e he st Q hw,lS (c:=c) λp hp=>h p (π _ hp)⟩
   cases b with
   | loop c=>grind
   | _=>exact⟨λhb=>(by cases hb),lS (by simpa only[bz]using h)⟩
 | .loop b,h=>lS (c:=b) (by simp_all [bz];omega)
 | .scope b,h=>lS (c:=b) (by simp_all [bz];omega)
 | .skip,_=>trivial
 | .region _ _ _,_=>trivial
 | .exit _,_=>trivial
 | .label _,_=>trivial
 | .goto _,_=>trivial
 | .ret,_=>trivial
 | .refuse _,_=>trivial
 | .rangeFunc _ _ _ _,_=>trivial
end Go.Ev
end
section
namespace Go.Ev
open Go Go.Proofs
variable{v v':AV}{news:List cD}{f i:Nat}{args:List AV}{S:aQ}{L:cx}{b:Bool}{C:bg}{cfg':cL}
noncomputable def dH(f:Nat):Func:=match aY tab f with
 | some p=>p.1
 | none=>default
noncomputable def aL(f:Nat):Code:=match aY tab f with
 | some p=>p.2
 | none=>.skip
noncomputable def lb(f i:Nat):Code:=((bz (aL f)).getD i (0,.skip)).2
abbrev VQ:Type:=AX×List AV×aB
abbrev EQ:Type:=AV×aB
def jE:cx:=λ_=>none
def iz(L:cx)(id:Nat)(e:St->Tr (AX×St)):cx:=λj=>bif υ j id then some e else L j
abbrev dO:aB:=⟨0,[],[]⟩
noncomputable def QJ(ws:List cD)(f:Nat)(x:AX×St):Tr EQ:=aT (wj tab (Cw cfg ws) (dH f) x) .a0
noncomputable def rT(S:aQ)(L:cx)(ws:List cD)(f i tn:Nat)(rel:List Nat)(vals:List AV)(J:Nat->Value)(o:aB):Tr VQ:=xz tab (cH cfg S) (tK S) L 1000 (Cw cfg ws) (lb f i) (tr tn rel vals J o) (Gg tn rel .a0)
noncomputable def bT(S:aQ)(L:cx)(ws:List cD)(f:Nat)(args:List AV):Tr EQ:=xz tab (cH cfg S) (tK S) L 1000 (Cw cfg ws) (aL f) (jS (dH f) args dO) (QJ ws f)
def Wx:List (Nat×cD)->Bool
 | []=>true
 | _=>false
noncomputable def Qf(f:Nat)(x:AX×St):Tr AV:=aT (wj tab (Cw cfg []) (dH f) x) λr=>bif Wx r.2.le&&(kG 14 [] 20 r.1).isSome then .a0 r.1 else .c0
noncomputable def pT(S:aQ)(L:cx)(f:Nat)(args:List AV):Tr AV:=xz tab (cH cfg S) (tK S) L 1000 (Cw cfg []) (aL f) (jS (dH f) args dO) (Qf f)
theorem Az:∀id,id<cfg.a0.n->Ep (cfg.a0.at id)=false:=ζ
def dL(ws:List cD)(v:AV)(news:List cD)(r:EQ):Prop:=Wk cfg (Cw cfg ws) 0 ⟨.c0 r.1 .a0 .a0,1,r.2,[],none⟩ λs=>s.o=⟨news.length,news,[]⟩/\s.ts.b0 0=v
theorem dL.c0{ws:List cD}:dL ws v news (v,⟨news.length,news,[]⟩):=Wk.a0 ⟨rfl,rfl⟩
theorem dL.of{ws:List cD}{o:aB}(h1:v'=v)(h2:o=⟨news.length,news,[]⟩):dL ws v news (v',o):=by grind [dL.c0]
theorem zW:Ns (Cw cfg []):=λid hid=>by
 have h14:id<cfg.a0.n:=hid;have:gB (Cw cfg []).B id=cfg.a0.at id:=by
  grind [Cw,gB,fp,eK]
 rw[this];exact⟨gR.lv.a0 id h14,λi hi=>gR.lv.b0 id h14 i hi⟩
theorem Ih{b:Nat}{ρ:List (Nat×Nat)}:∀{d:Nat} {v v':AV},kG b ρ d v=some v'->aC v=[]->v'=v:=by
 intro d;induction d with
 | zero=>nofun
 | succ d ih=>
   have ihl:∀{vs vs':List AV},yw (kG b ρ d) vs=some vs'->bw vs=[]->vs'=vs:=by
    intro vs;induction vs<;>grind [yw,ag,bw,List.append_eq_nil_iff]
   intro v v' h hi;unfold kG at h;grind [ag,aC,List.append_eq_nil_iff]
theorem dL.b0{o:aB}(h1:v'=v)(hi:aC v=[])(hm:(kG 14 [] 20 v).isSome)(hle:o.le=[]):dL [] v [] (v',o):=by
 subst h1;obtain⟨u,hu⟩:=Option.isSome_iff_exists.1 hm;have e:=Ih hu hi;subst e;refine(oX gR.lv (C:=Cw cfg []) (st:=⟨.c0 u .a0 .a0,1,o,[],none⟩) (kb:=0) (sel:=[]) (ts':=.c0 u .a0 .a0) (o':=dO) zW (Nat.zero_le _) (λs hs=>by cases hs) List.nodup_nil (λp hp=>by rw[show(⟨.c0 u .a0 .a0,1,o,[],none⟩:St).o=o from rfl,hle]at hp;cases hp) hle.symm rfl rfl (λi hi=>absurd hi (Nat.not_lt_zero i)) (λt ht=>absurd ht (Nat.not_lt_zero t)) ?_ (λd hd=>by cases hd) (λi hi=>by cases hi)).b0 λs hs=>?_
 . have hu':kG ((Cw cfg []).lo+0) (fY (Cw cfg []).lo 0 []) 20 u=some u:=hu;simp only[xB,hu',ob]
 . rw[hs];exact⟨rfl,rfl⟩
section
variable{S:aQ}(hS:ak Tryz.prog cfg S){L:cx}{ws:List cD}
include hS
theorem ia{tn:Nat}{rel:List Nat}(htn:aS tn 1000000)(hrel:nP tn rel)(hL:qI Tryz.prog (cH cfg S) (Cw cfg ws) L (lb f i)){ι:Type}(vals:ι->List AV)(own:ι->aB)(μ:ι->Nat)(kb:Nat)(hkb:∀x,kb<=(own x).n){Q:VQ->Prop}
 (hr:∀x J,(rT S L ws f i tn rel (vals x) J (own x)).wp λq=>match q.1 with
   | .a=>∃y,μ y<μ x/\VW cfg (Cw cfg ws) kb tn rel q.2.1 q.2.2 (vals y) (own y)
   | ax=>∃vs2 o2,VW cfg (Cw cfg ws) kb tn rel q.2.1 q.2.2 vs2 o2/\Q (ax,vs2,o2)) {vs:List AV} {o:aB} (hk:o.n<=kb) (h0:∀J,Wk cfg (Cw cfg ws) kb (tr tn rel vs J o) λs=>∃x J',s=tr tn rel (vals x) J' (own x)) (J:Nat->Value) :
 bN Tryz.prog (cH cfg S) (Cw cfg ws) (.loop (lb f i)) (tr tn rel vs J o) λr=>∃ax vs' o' J',Q (ax,vs',o')/\r=(ax,tr tn rel vs' J' o'):=by
 have hW:∀{k:Nat} {st:St} {A:St->Prop},Wk cfg (Cw cfg ws) k st A->Wk (cH cfg S) (Cw cfg ws) k st A:=λh D m a w hi ht=>by
  obtain⟨s,D',m',hA,h1,h2,h3,h4,h5⟩:=h D m a w (dX.to (cfg:=cH cfg S) (cfg':=cfg) rfl rfl hi) ht;grind [dX.to,cH,dw.to]
 refine IS (cC.a0 hS) (nj cfg S) (kb:=kb) (n:=1000) (aU.1 htn) hrel hL vals own μ hkb (λx J=>?_) hk (λJ=>hW (h0 J)) J;refine Tr.k0 (λq hq=>?_) (hr x J);revert hq;cases q.1 with
 | a=>exact λ⟨y,hy,hv⟩=>⟨y,hy,λJ=>hW (hv J)⟩
 | b id=>exact λ⟨vs2,o2,hv,h⟩=>⟨vs2,o2,λJ=>hW (hv J),h⟩
 | c=>exact λ⟨vs2,o2,hv,h⟩=>⟨vs2,o2,λJ=>hW (hv J),h⟩
theorem Bu(hb:aY tab f=some (dH f,aL f))(hlen:args.length<=1000)(hL:qI Tryz.prog (cH cfg S) (Cw cfg ws) L (aL f))
 (h:(bT S L ws f args).wp (dL ws v news)):bu Tryz.prog cfg f args ws v news:=by
 refine cC.c0 hS hb hlen ((wE (cC.a0 hS) (nj cfg S) hL h).a0 λx hx=>?_);have hx:(QJ ws f x).wp (dL ws v news):=hx;unfold QJ at hx;cases he:wj tab (Cw cfg ws) (dH f) x with
 | none=>rw[he]at hx;exact hx.elim
 | some r=>rw[he]at hx;exact⟨r,rfl,hx⟩
end
theorem kA(hS:ak Tryz.prog cfg S)(hb:aY tab f=some (dH f,aL f))(hlen:args.length<=1000)(hL:qI Tryz.prog (cH cfg S) (Cw cfg []) L (aL f))
 (h:(pT S L f args).wp (·=v)) (hi:aC v=[]):bu Tryz.prog cfg f args [] v []:=by
 refine cC.c0 hS hb hlen ((wE (cC.a0 hS) (nj cfg S) hL h).a0 λx hx=>?_);have hx:(Qf f x).wp (·=v):=hx;unfold Qf at hx;cases he:wj tab (Cw cfg []) (dH f) x with
 | none=>rw[he]at hx;exact hx.elim
 | some r=>
   rw[he]at hx;have hx:(bif Wx r.2.le&&(kG 14 [] 20 r.1).isSome then Tr.a0 r.1 else .c0).wp (·=v):=hx;cases hb:(Wx r.2.le&&(kG 14 [] 20 r.1).isSome)with
   | false=>rw[hb]at hx;exact hx.elim
   | true=>
     rw[hb,cond_true]at hx;have hx:r.1=v:=hx;rw[zAa]at hb;have hle:r.2.le=[]:=by
      have:=hb.1;cases hr:r.2.le with
      | nil=>rfl
      | cons a b=>rw[hr]at this;cases this
     exact⟨r,rfl,dL.b0 hx hi (by rw[<-hx];exact hb.2) hle⟩
theorem We{R:Type}{t:Tr R}{Q:R->Prop}(h:(lu b t).wp Q):b/\t.wp Q:=by
 cases b with
 | true=>exact⟨rfl,h⟩
 | false=>exact h.elim
def jv(l:List Value)(j:Nat):Value:=l.getD j undef
def aH{R:Type}:List Bool->Tr R->Tr R
 | [],t=>t
 | c::cs,t=>lu c (aH cs t)
theorem cZ{R:Type}{c:Bool}{cs:List Bool}{t:Tr R}{Q:R->Prop}(h:(aH (c::cs) t).wp Q):c/\(aH cs t).wp Q:=We h
theorem ex{R:Type}{c:Bool}{cs:List Bool}{t:Tr R}{s:R}(h:(aH (c::cs) t).b0=some s):c/\(aH cs t).b0=some s:=bG h
def Tk:List Bool->Prop
 | []=>True
 | c::cs=>c/\Tk cs
theorem cO{R:Type}{t:Tr R}{Q:R->Prop}:∀{cs:List Bool},(aH cs t).wp Q->Tk cs/\t.wp Q
 | [],h=>⟨trivial,h⟩
 | _::_,h=>by
   obtain⟨h1,h⟩:=cZ h;obtain⟨h2,h⟩:=cO h;exact⟨⟨h1,h2⟩,h⟩
theorem aF{R:Type}{t:Tr R}{s:R}:∀{cs:List Bool},(aH cs t).b0=some s->Tk cs/\t.b0=some s
 | [],h=>⟨trivial,h⟩
 | _::_,h=>by
   obtain⟨h1,h⟩:=ex h;obtain⟨h2,h⟩:=aF h;exact⟨⟨h1,h2⟩,h⟩
theorem bb{R:Type}{t:Tr R}{Q:R->Prop}(h:∀Q':R->Prop,(∀q,Q q->Q' q)->t.wp Q'):t.wp Q:=h Q λ_ h=>h
theorem ai{P:Program}{c:Code}:qI P cfg' C jE c:=lS λp _ e he=>by cases he
theorem dv{P:Program}{c:Code}{ids:List Nat}(hids:(bz c).map (·.1)=ids)(h:∀i,i<ids.length->∀e,L (ids.getD i 0)=some e->∀st Q,(e st).wp Q->bN P cfg' C (.loop ((bz c).getD i (0,.skip)).2) st Q):qI P cfg' C L c:=by
 refine lS λp hp e he st Q hw=>?_;obtain⟨i,hi⟩:=List.getElem?_of_mem hp;have hlen:i<(bz c).length:=(List.getElem?_eq_some_iff.1 hi).1;have hid:ids.getD i 0=p.1:=by
  grind
 have:=h i η e η st Q hw;grind
theorem pf{s:List UInt8}(h:i<s.length):s.take (i+1)=s.take i++[s.getD i 0]:=by
 simp_all
theorem Kt{α:Type}(s:List α):s.take s.length=s:=List.take_length
def plainW(e:dP):aav:=λargs ws=>match ws with
 | []=>ob (e args) λt=>some (t.i0 λv=>.a0 (v,[]))
 | _=>none
theorem Iy{P:Program}{e:dP}(h:∀args t v,e args=some t->t.b0=some v->bu P cfg f args [] v []):tD P cfg f (fl cfg.a0.n [] (plainW e)):=by
 refine fW gR.lv Az λargs ws t r ht hr=>?_;unfold plainW at ht;split at ht
 . rw[ag]at ht;obtain⟨t0,h0,ht⟩:=ht;cases ht;obtain⟨v,hv,h2⟩:=Tr.g0 hr;cases h2;grind
 grind
def aK(S:aQ)(f:Nat)(e:dP):aQ:=eQ S f (fl 14 [] (plainW e))
theorem au{e:dP}(h:ak Tryz.prog cfg S)(he:∀args t v,e args=some t->t.b0=some v->bu Tryz.prog cfg f args [] v []):ak Tryz.prog cfg (aK S f e):=bm h (Iy he)
theorem jJ{A:Type}{t:Tr A}{P:A->Prop}(D:DT){R:(A->Prop)->Prop}(hk:∀Q,gG Q t D=R Q)(h:∀Q:A->Prop,(∀q,P q->Q q)->R Q):t.wp P:=bb λQ hQ=>cg ((hk Q).mpr (h Q hQ))
theorem jD(hS:ak Tryz.prog cfg S)(hL:qI Tryz.prog (cH cfg S) (Cw cfg []) L (aL f))(D:DT){R:(AV->Prop)->Prop}(hk:∀Q,gG Q (pT S L f args) D=R Q)(h:∀Q:AV->Prop,(∀q,q=v->Q q)->R Q)(hb:aY tab f=some (dH f,aL f):=by kernel_rfl)(hlen:args.length<=1000:=by simp)(hi:aC v=[]:=by simp[aC,bw]):bu Tryz.prog cfg f args [] v []:=
 kA hS hb hlen hL (bb λQ hQ=>cg ((hk Q).mpr (h Q hQ))) hi
theorem nF(hS:ak Tryz.prog cfg S)(hL:qI Tryz.prog (cH cfg S) (Cw cfg []) L (aL f))(D:DT){R:(AV->Prop)->Prop}(hk:∀Q,gG Q (pT S L f args) D=R Q)(h:∀Q:AV->Prop,Q v->R Q)(hb:aY tab f=some (dH f,aL f):=by kernel_rfl)(hlen:args.length<=1000:=by simp)(hi:aC v=[]:=by simp[aC,bw]):bu Tryz.prog cfg f args [] v []:=
 jD hS hL D hk (λQ hQ=>h Q (hQ v rfl)) hb hlen hi
def dT(s:List UInt8)(a b:Int):Nat:=(s.filter λc=>decide (a<=(c.toNat:Int))&&decide ((c.toNat:Int)<=b)).length
theorem ab6(s:List UInt8)(a b:Int):dT s a b<=s.length:=List.length_filter_le _ _
theorem H_{s:List UInt8}{a b:Int}{i:Nat}(h:i<s.length):dT (s.take (i+1)) a b=dT (s.take i) a b+if a<=((s.getD i 0).toNat:Int)/\((s.getD i 0).toNat:Int)<=b then 1 else 0:=by
 grind [dT,pf]
def S9:dW:=λ
 | [.e s,.a .u8 a,.a .u8 b,.a .i64 n,.a .i64 i],⟨0,[],[]⟩=>some (lu (ξ s.length 140737488351232) (lu (aa n 0) (lu (aa i 0) (.a0 (.b 0,[.e s,.a .u8 a,.a .u8 b,.a .i64 (ν (dT s a b)),.a .i64 (ν s.length)],dO)))))
 | _,_=>none
def X_:cx:=iz jE 0 (d9 30 [0,1,2,7,8] S9)
def Ws:dP:=λ
 | [.e s,.a .u8 a,.a .u8 b]=>some (lu (ξ s.length 140737488351232) (.a0 (.a .i64 (ν (dT s a b)))))
 | _=>none
def T1:aQ:=aK S7 202 Ws
theorem ZO(s:List UInt8)(a b n:Int)(i:Nat)(J:Nat->Value){Q:VQ->Prop}:gG Q (rT S7 jE [] 202 0 30 [0,1,2,7,8] [.e s,.a .u8 a,.a .u8 b,.a .i64 n,.a .i64 (ν i)] J dO) (bE 1120338121224270224204)=((λ(E F G O:AV)(C I N:Int)(H:Nat)=>(λ(A P:Bool)(T:Int)=>(λ(V:AV)(U:Bool)(B:Prop)=>(λ(W:Prop)=>(P->aS i H/\(A->A/\A/\aS i H/\A/\A/\A/\(ab I b->af .i64 N/\U/\Q (.a,[E,F,G,.a .i64 N,V],⟨0,[],[]⟩))/\(ab I b=false->W))/\(B->B/\B/\B/\B/\B/\W))/\(P=false->Q (.b 0,[E,F,G,O,.a .i64 C],⟨0,[],[]⟩))) (U/\Q (.a,[E,F,G,O,V],⟨0,[],[]⟩))) (.a .i64 T) (af .i64 T) (A=false)) (ab a I) (not (ab (ν H) C)) (χ C 1)) (.e s) (.a .u8 a) (.a .u8 b) (.a .i64 n) (ν i) (ν (UInt8.toNat (List.getD s i 0))) (χ n 1) s.length):=κ
theorem Vg:cu Tryz.prog (cH cfg S7) (Cw cfg []) (lb 202 0) 30 [0,1,2,7,8] S9:=by
 intro vs o t Q hv hq J;unfold S9 at hv;split at hv
 . rename_i s a b n i;cases hv;obtain⟨h1,hq⟩:=We hq;obtain⟨h2,hq⟩:=We hq;obtain⟨h3,hq⟩:=We hq;rw[al]at h1;rw[ao]at h2 h3;subst h2 h3;refine ia vQ rfl rfl ai (ι:={i:Nat // i<=s.length}) (λx=>[.e s,.a .u8 a,.a .u8 b,.a .i64 (ν (dT (s.take x.1) a b)),.a .i64 (ν x.1)]) (λ_=>dO) (λx=>s.length-x.1) 0 (λ_=>τ _) (λx J=>?_) (τ _) (λJ=>Wk.a0 ⟨⟨0,Nat.zero_le _⟩,J,rfl⟩) J;obtain⟨i,hi⟩:=x;dsimp only;have hn:=ab6 (s.take i) a b;rw[List.length_take]at hn;have hsn:=@H_ s a b i;refine bb λQ' hQ=>cg ((ZO s a b _ i J).mpr ?_);simp only[az,reduceCtorEq]
   (repeat' first|exact trivial|refine⟨?_,?_⟩|intro)<;>first|omega|refine hQ _ ?_
   . have h:=hsn δ;rw[if_pos ⟨by assumption,by assumption⟩]at h;exact⟨⟨i+1,by omega⟩,by dsimp only;omega,VW.b0 (by dsimp only;rw[h];rfl) rfl⟩
   . have h:=hsn δ;rw[if_neg δ]at h;exact⟨⟨i+1,by omega⟩,by dsimp only;omega,VW.b0 (by dsimp only;rw[h];rfl) rfl⟩
   . have h:=hsn δ;rw[if_neg δ]at h;exact⟨⟨i+1,by omega⟩,by dsimp only;omega,VW.b0 (by dsimp only;rw[h];rfl) rfl⟩
   . obtain rfl:i=s.length:=δ
     rw[Kt];exact⟨_,_,VW.a0,hq⟩
 . cases hv
theorem ON:aY tab 202=some (dH 202,aL 202):=κ
theorem Mn:(bz (aL 202)).map (·.1)=[0]:=κ
theorem U0(s:List UInt8)(a b:Int)(h:s.length<=140737488351232):bu Tryz.prog cfg 202 [.e s,.a .u8 a,.a .u8 b] [] (.a .i64 (ν (dT s a b))) []:=by
 refine Bu vQ (L:=X_) ON θ (dv Mn λi hi e he st Q hw=>?_) ?_
 . have hi:i=0:=η
   subst hi;cases he;exact bR (cC.a0 vQ) ζ rfl Vg hw
 . refine jJ (bE 1002) (R:=λQ=>ξ s.length 140737488351232/\(∀J1:Nat->Value,Q (.a .i64 (ν (dT s a b)),⟨0,[],[]⟩))) (λ_=>by rfl) λQ' hQ=>?_;simp_all [dL.of]
theorem WO:ak Tryz.prog cfg T1:=au vQ λargs t v he hv=>by
 unfold Ws at he;split at he
 . cases he;obtain⟨h1,h2⟩:=bG hv;cases h2;exact U0 _ _ _ (al.mp h1)
 grind
def dB(b:UInt8):Bool:=decide (48<=b.toNat)&&decide (b.toNat<=57)
def dV(l:List UInt8):Bool:=l.all dB
def numL(l:List UInt8):Nat:=l.foldl (λn b=>n*10+(b.toNat-48)) 0
def iS(s:List UInt8)(i:Nat):Nat:=numL (s.take i)*10^(i-s.length)
def fa(s:List UInt8)(e:Nat):Nat:=numL s*10^e
theorem I0(l:List UInt8)(b:UInt8):numL (l++[b])=numL l*10+(b.toNat-48):=by grind [numL]
theorem Db{s:List UInt8}{i:Nat}(h:i<s.length):iS s (i+1)=iS s i*10+((s.getD i 0).toNat-48):=by
 grind [iS,pf,I0]
theorem Df{s:List UInt8}{i:Nat}(h:s.length<=i):iS s (i+1)=iS s i*10:=by
 unfold iS;rw[ο (by omega:s.length<=i+1),ο h,show i+1-s.length=(i-s.length)+1 by omega,Nat.pow_succ,Nat.mul_assoc]
theorem FF(s:List UInt8)(i:Nat):iS s i<=iS s (i+1):=by
 grind [Db,Df]
theorem Ez{s:List UInt8}{j:Nat}(h:i<=j):iS s i<=iS s j:=by
 obtain⟨k,rfl⟩:∃k,j=i+k:=⟨j-i,by omega⟩;induction k<;>grind [FF]
theorem Aa(s:List UInt8)(e:Nat):iS s (s.length+e)=fa s e:=by
 simp[iS,fa,ο]
theorem pz{s:List UInt8}(h:dV s){i:Nat}(hi:i<s.length):48<=(s.getD i 0).toNat/\(s.getD i 0).toNat<=57:=by
 simp_all [dV,dB]
def magOk(s:List UInt8)(e:Nat):Bool:=ξ (fa s e) 10000000000000000
def Sb:dW:=λ
 | [.e s,.a .i64 e,.a .i64 r,.a .i64 q,.a .i64 n,.a .i64 i],⟨0,[],[]⟩=>some (aH [ξ s.length 1000,ab 0 e,ab e 1000,dV s,aa r 0,aa q 0,aa n 0,aa i 0]
   (.d0 (magOk s e.toNat) λb=>bif b then .a0 (.b 0,[.e s,.a .i64 e,.a .i64 0,.a .i64 0,.a .i64 (ν (fa s e.toNat)),.a .i64 (ν (s.length+e.toNat))],dO)
     else .e0 λJ=>.a0 (.c,[.e s,.a .i64 e,.a .i64 0,.a .i64 0,.j (J 0),.j (J 1)],dO)))
 | _,_=>none
def Zv:cx:=iz jE 0 (d9 32 [0,1,4,5,6,7] Sb)
def Vh:dP:=λ
 | [.e s,.a .i64 e]=>some (aH [ξ s.length 1000,ab 0 e,ab e 1000,dV s] (.d0 (magOk s e.toNat) λb=>bif b then .a0 (.d [.a .i64 (ν (fa s e.toNat)),.a .i64 1])else .a0 (.d [.a .i64 0,.a .i64 0])))
 | _=>none
def T2:aQ:=aK T1 127 Vh
theorem XW(s:List UInt8)(e n:Int)(i:Nat)(J:Nat->Value){Q:VQ->Prop}:gG Q (rT S7 jE [] 127 0 32 [0,1,4,5,6,7] [.e s,.a .i64 e,.a .i64 0,.a .i64 0,.a .i64 n,.a .i64 (ν i)] J dO) (bE 1121412142704242)=((λ(A B C:AV)(E F G:Int)(N:Nat)=>(λ(I U:AV)(T:Bool)(H O P:Int)=>(λ(Z u1:AV)(W Y u0:Bool)(V:Int)=>(λ(u2:Bool)=>af .i64 V/\(u2->af .i64 F/\(W->aS i N/\af .u8 G/\af .i64 G/\af .i64 H/\(Y->Q (.c,[B,C,A,A,Z,I],⟨0,[],[]⟩))/\(Y=false->u0/\Q (.a,[B,C,A,A,Z,u1],⟨0,[],[]⟩)))/\(W=false->(T->Q (.c,[B,C,A,A,U,I],⟨0,[],[]⟩))/\(T=false->u0/\Q (.a,[B,C,A,A,U,u1],⟨0,[],[]⟩))))/\(u2=false->Q (.b 0,[B,C,A,A,.a .i64 n,I],⟨0,[],[]⟩))) (not (ab V E))) (.a .i64 H) (.a .i64 P) (not (ab O E)) (not (ab H 10000000000000000)) (af .i64 P) (χ O e)) (.a .i64 E) (.a .i64 F) (not (ab F 10000000000000000)) (χ F G) (ν N) (χ E 1)) (.a .i64 0) (.e s) (.a .i64 e) (ν i) (Int.mul 10 n) (Int.sub (ν (UInt8.toNat (List.getD s i 0))) 48) s.length):=κ
theorem WN:cu Tryz.prog (cH cfg S7) (Cw cfg []) (lb 127 0) 32 [0,1,4,5,6,7] Sb:=by
 intro vs o t Q hv hq J;unfold Sb at hv;split at hv
 . rename_i s e r q n i;cases hv;replace hq:=cO hq;obtain⟨⟨h1,h2,h3,h4,h5,h6,h7,h8,-⟩,hq⟩:=hq;rw[al]at h1;rw[aq]at h2 h3;rw[ao]at h5 h6 h7 h8;subst h5 h6 h7 h8;have hq:Tr.wp Q (bif magOk s e.toNat then .a0 (.b 0,[.e s,.a .i64 e,.a .i64 0,.a .i64 0,.a .i64 (ν (fa s e.toNat)),.a .i64 (ν (s.length+e.toNat))],dO)else .e0 λJ=>.a0 (.c,[.e s,.a .i64 e,.a .i64 0,.a .i64 0,.j (J 0),.j (J 1)],dO)):=hq;refine ia vQ rfl rfl ai (ι:={i:Nat // i<=s.length+e.toNat/\iS s i<=10000000000000000}) (λx=>[.e s,.a .i64 e,.a .i64 0,.a .i64 0,.a .i64 (ν (iS s x.1)),.a .i64 (ν x.1)]) (λ_=>dO) (λx=>s.length+e.toNat-x.1) 0 (λ_=>τ _) (λx J=>?_) (τ _) (λJ=>Wk.a0 ⟨⟨0,Nat.zero_le _,by simp[iS,numL]⟩,J,by simp[iS,numL,tr]⟩) J;obtain⟨i,hi,hp⟩:=x;dsimp only;have hlt:=@Db s i;have hge:=@Df s i;have hmono:i+1<=s.length+e.toNat->iS s (i+1)<=fa s e.toNat:=λh=>by rw[<-Aa];exact Ez h
   have hdi:=@pz s h4 i;refine bb λQ' hQ=>cg ((XW s e _ i J).mpr ?_);simp only[az,reduceCtorEq];have no:10000000000000000<iS s (i+1)->i+1<=s.length+e.toNat->magOk s e.toNat=false:=λh h'=>by
    grind [magOk,Cn]
   (repeat' first|exact trivial|refine⟨?_,?_⟩|intro)<;>first|omega|refine hQ _ ?_
   . have:=hlt δ;rw[no δ δ,cond_false]at hq;exact⟨_,_,VW.c0 (.a0 (.a0 (.a0 (.a0 (.b0 (.b0 .c0)))))) rfl,hq (jv [_,_])⟩
   . have h:=hlt δ;exact⟨⟨i+1,by omega,by omega⟩,by dsimp only;omega,VW.b0 (by dsimp only;rw[h];congr 6;simp only[Bv];omega) rfl⟩
   . have:=hge δ;rw[no δ δ,cond_false]at hq;exact⟨_,_,VW.c0 (.a0 (.a0 (.a0 (.a0 (.b0 (.b0 .c0)))))) rfl,hq (jv [_,_])⟩
   . have h:=hge δ;exact⟨⟨i+1,by omega,by omega⟩,by dsimp only;omega,VW.b0 (by dsimp only;rw[h];congr 6;simp only[Bv];omega) rfl⟩
   . obtain rfl:i=s.length+e.toNat:=δ
     rw[Aa]at hp ⊢;have:magOk s e.toNat=true:=by unfold magOk;rw[al];exact hp
     rw[this,cond_true]at hq;exact⟨_,_,VW.a0,hq⟩
 . cases hv
theorem N9:aY tab 127=some (dH 127,aL 127):=κ
theorem Kr:(bz (aL 127)).map (·.1)=[0]:=κ
theorem adv:ak Tryz.prog cfg T2:=au WO λargs t v he hv=>by
 unfold Vh at he;split at he
 . rename_i s e;cases he;obtain⟨⟨h1,h2,h3,h4,-⟩,hv⟩:=aF hv;rw[al]at h1;rw[aq]at h2 h3;refine Bu vQ (L:=Zv) N9 θ (dv Kr λi hi e he st Q hw=>?_) ?_
   . have hi:i=0:=η
     subst hi;cases he;exact bR (cC.a0 vQ) ζ rfl WN hw
   . refine jJ (bE 114527) (R:=λQ=>(λ(B:AV)(A:Nat)=>ξ s.length 1000/\ab 0 e/\ab e 1000/\dV s/\(magOk s A->(∀J1:Nat->Value,Q (.d [.a .i64 (ν (fa s A)),.a .i64 1],⟨0,[],[]⟩)))/\(magOk s A=false->(∀J1 J2:Nat->Value,Q (.d [B,B],⟨0,[],[]⟩)))) (.a .i64 0) e.toNat) (λ_=>by rfl) λQ' hQ=>?_;simp only[az,reduceCtorEq];have hv:Tr.b0 (bif magOk s e.toNat then .a0 (.d [.a .i64 (ν (fa s e.toNat)),.a .i64 1])else .a0 (.d [.a .i64 0,.a .i64 0]))=some v:=hv
     (repeat' first|exact trivial|refine⟨?_,?_⟩|intro)<;>first|omega|assumption|(rename_i hm _;rw[hm]at hv;cases hv;exact hQ _ dL.c0)|(rename_i hm _ _;rw[hm]at hv;cases hv;exact hQ _ dL.c0)
 grind
abbrev XH(ng lg:Bool)(s:List UInt8)(e g:Int):AV:=.g [.b ng,.b lg,.e s,.a .i64 e,.a .i64 g]
abbrev PH(ng lg:Bool)(s:List UInt8)(e g:Int)(mo da:List UInt8)(a b c:Int):AV:=.g [.b ng,.b lg,.e s,.a .i64 e,.a .i64 g,.e mo,.e da,.a .u8 a,.a .u8 b,.a .u8 c]
def aV(ng lg:Bool)(s:List UInt8)(e g:Int):Bool:=decide (dT s 48 57+dT s 88 88=s.length/\0<=g/\
 (lg=false/\s.length=4/\e=0/\¬(ng/\dT s 48 48=4)/\g<=4/\¬(0<g/\0<dT s 88 88)\/
  lg/\dT s 88 88=0/\1<=dT s 48 57/\dT s 48 57<=17/\(s.getD 0 0).toNat≠48/\0<=e/\e<=16/\¬(e=0/\dT s 48 57<5)/\g<=dT s 48 57+e/\magOk s e.toNat=true))
def Uw:dP:=λ
 | [.g [.b ng,.b lg,.e s,.a .i64 e,.a .i64 g]]=>some (aH [ξ s.length 140737488351232] (.a0 (.a .i64 (gY 1 (ν (dT s 88 88))))))
 | _=>none
def bI(b:Bool):Int:=bif b then 1 else 0
def alT:dP:=λ
 | [.g [.b ng,.b lg,.e s,.a .i64 e,.a .i64 g]]=>some (aH [ξ s.length 140737488351232,af .i64 e] (.a0 (.a .i64 (bI (aV ng lg s e g)))))
 | _=>none
def T3:aQ:=aK (aK T2 248 Uw) 124 alT
theorem oV{s:List UInt8}(h:dT s 48 57=s.length):dV s=true:=by
 grind [dT,List.length_filter_eq_length_iff,dV,dB]
theorem XD(h:b):bI b=1:=by rw[h];rfl
theorem VR(h:b=false):bI b=0:=by rw[h];rfl
theorem ZN(ng lg:Bool)(s:List UInt8)(e g:Int){Q:AV->Prop}:gG Q (pT T2 jE 248 [XH ng lg s e g]) (bE 1200)=(ξ s.length 140737488351232/\Q (.a .i64 (gY 1 (ν (dT s 88 88))))):=κ
theorem O0:aY tab 248=some (dH 248,aL 248):=κ
theorem MB:ak Tryz.prog cfg T3:=by
 refine au (au adv λargs t v he hv=>?_) λargs t v he hv=>?_
 . unfold Uw at he;split at he
   . cases he;obtain⟨h1,hv⟩:=ex hv;rw[al]at h1;cases hv;refine kA adv (L:=jE) O0 (by simp) ai (cg ((ZN _ _ _ _ _).mpr ?_)) (by rfl);simp;omega
   grind
 . unfold alT at he;split at he
   . rename_i ng lg s e g;cases he;obtain⟨⟨h1,h2,-⟩,hv⟩:=aF hv;rw[al]at h1;rw[aE]at h2;cases hv;have k1:=ab6 s 48 57;have k2:=ab6 s 88 88;refine jD adv ai (bE 1023310056662310006662310005662810006623315562331623008111447000140025533231028811144700014370702437422024320243202432202024324324156623315623533102300810332311437422024053328162331023008103323114374220243202432702024202432024040143202402200200) (R:=λQ=>(λ(I V u5 u6 u8 u9 ua us ut uu:Bool)(H ur:Int)(U:Nat)(A N u7:Prop)=>(λ(C E W Y Z u0 ub uc ue uf ug:Bool)(uv uw uz:Int)(ud uh ux uy:Prop)=>(λ(B G P ui uj ul um uC uD:Bool)(O T uk un uo uA uB:Prop)=>(λ(u1 u2:Bool)(F u3 u4 uE uF uG uH:Prop)=>(λ(up uq:Prop)=>ub/\ub/\af .i64 uv/\(u1->u1/\u1/\ui=false/\(us->A)/\(us=false->(ut->(u2->u2/\u2/\uj=false/\(G->G/\G/\(ng->ng/\ng/\ub/\ng/\G/\ng/\uA/\(W->W/\W/\u5=false/\uE)/\(uk->uk/\uk/\u5/\A))/\(N->N/\N/\N/\G/\N/\uA/\uE))/\(u3->u3/\u3/\u3/\uc/\A))/\(up->up/\up/\uj/\A))/\(ut=false->(ul->ul/\uB/\(um->um/\ue=false/\(P->P/\P/\aS 0 U/\P/\uf=false/\(Z->Z/\Z/\u8=false/\(u0->u0/\u0/\u9=false/\(E->E/\E/\E/\(I->I/\E/\I/\uy/\(B->B/\B/\B/\B/\B/\uC/\B/\ug=false/\uF)/\(F->F/\F/\F/\F/\F/\F/\ug/\A))/\(uh->uh/\E/\uh/\uy/\uC/\uF))/\(T->T/\T/\T/\T/\ua/\A))/\(un->un/\un/\u9/\A))/\(uo->uo/\uo/\u8/\A))/\(u4->u4/\u4/\u4/\uf/\A))/\(uG->uG/\ue/\A))/\(uH->uH/\Y/\A))))/\(uq->uq/\uq/\ui/\A)) (u2=false) (u1=false)) (not ui) (not uj) (B=false) (G=false) (P=false) ((C->C/\C/\C/\(V->V/\C/\V/\ux/\(Y->A)/\(uB->u7))/\(ud->ud/\C/\ud/\ux/\u7))/\(O->O/\O/\O/\O/\u6/\A)) ((uD->A)/\(uD=false->ξ U 1000/\ab 0 e/\ab e 1000/\(dV s->(uu->u7)/\(uu=false->A))/\(dV s=false->False))) (um=false) (ul=false)) (not ug) (not uc) (not uf) (not (aa uv uw)) (not (aa uw 4)) (not Y) (not ue) (af .i64 uz) (not (ab g uz)) (C=false) (E=false) (W=false) (u0=false) (Z=false) (uc=false) (Y=false)) (not u6) (not ua) (not u5) (not (ab ur 0)) (not u8) (not u9) (ξ U 140737488351232) (not I) (not (ab 1 H)) (not (ab H 17)) (not (ab 5 H)) (χ H ur) (ν U) (χ H e) (V=false) (I=false) (u6=false) (ua=false)) (aa e 0) (not (ab g 0)) (aa (ν (dT s 48 48)) 4) (not (ab g 4)) (aa (ν (UInt8.toNat (List.getD s 0 0))) 48) (not (ab 0 e)) (not (ab e 16)) (not (ab 0 g)) (not lg) (magOk s e.toNat) (ν (dT s 48 57)) (ν (dT s 88 88)) s.length (Q (.a .i64 0)) (ng=false) (Q (.a .i64 1))) (λ_=>by kernel_rfl) λQ' hQ=>?_;simp only[az,reduceCtorEq];have dg:=@oV s;have yes:aV ng lg s e g->Q' (.a .i64 1):=λh=>hQ _ (by rw[XD h]);have no:aV ng lg s e g=false->Q' (.a .i64 0):=λh=>hQ _ (by rw[VR h])
     (repeat' first|exact trivial|refine⟨?_,?_⟩|intro)<;>first|omega|assumption|(exact dg (by omega))|(exfalso;have:=dg (by omega);simp_all;done)|(refine no ?_;unfold aV;rw[decide_eq_false_iff_not];simp_all;try omega)|(refine yes ?_;unfold aV;rw[zAc];simp_all;try omega)
   . cases he
end Go.Ev
end
