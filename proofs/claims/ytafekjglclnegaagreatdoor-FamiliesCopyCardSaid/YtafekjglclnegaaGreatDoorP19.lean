import Derived.Test.YtafekjglclnegaaGreatDoorP18
set_option linter.all false
section
namespace Go.Ev
open Go Go.RowKit
def oW(J:Nat->Value):Nat->Ts->Ts
 | 0,t=>t
 | n+1,t=>oW J n (Ts.set 20 t n (.any (J n)))
def gR:List Nat->List AV->Ts->Ts
 | i::is,v::vs,t=>gR is vs (Ts.set 20 t i v)
 | _,_,t=>t
def sN(tn:Nat)(rel:List Nat)(vals:List AV)(J:Nat->Value)(o:aC):St:=⟨gR rel vals (oW J tn .nil),tn,o,[],none⟩
def ik(st:St):List Nat->List AV
 | []=>[]
 | i::is=>st.ts.get i::ik st is
def Jh:List Nat->Bool
 | []=>true
 | _=>false
def Sz:Option Nat->Bool
 | none=>true
 | _=>false
def BR{R:Type}(tn:Nat)(rel:List Nat)(K:AX×List AV×aC->Tr R)(r:AX×St):Tr R:=bif Nat.beq r.2.tn tn&&Jh r.2.ds then K (r.1,ik r.2 rel,r.2.o)else .fail
abbrev fp:Type:=List AV->aC->Option (Tr (AX×List AV×aC))
def fL(tn:Nat)(rel:List Nat)(vw:fp)(st:St):Tr (AX×St):=
 bif Nat.beq st.tn tn&&Jh st.ds&&Sz st.ro then aV (vw (ik st rel) st.o) λt=>t.then λq=>.all λJ=>.ret (q.1,sN tn rel q.2.1 J q.2.2)else .fail
def dG(P:Program)(cfg:cx)(C:bg)(b:Code)(tn:Nat)(rel:List Nat)(vw:fp):Prop:=
 ∀vs o t Q,vw vs o=some t->t.wp Q->∀J,bJ P cfg C (.loop b) (sN tn rel vs J o) λr=>∃ax vs' o' J',Q (ax,vs',o')/\r=(ax,sN tn rel vs' J' o')
theorem AP{J:Nat->Value}:∀{n:Nat} {t:Ts} {i:Nat},n<1000000->(oW J n t).get i=if i<n then .any (J i)else t.get i
 | 0,t,i,_=>by simp[oW]
 | n+1,t,i,h=>by
   have hk:n<2^20-1:=Nat.lt_of_lt_of_le (by omega) (by decide:1000000<=2^20-1)
   rw[oW,AP (by omega),Ts.get_set 20 _ _ _ _ hk]
   by_cases h1:i<n
   · grind
   · grind
theorem Bx{f:Nat->AV}:∀{rel:List Nat} {vs:List AV} {t:Ts} {i:Nat},vs.length=rel.length->(∀k,k<rel.length->vs.getD k bj=f (rel.getD k 0))->(∀k∈rel,k<1000000)->(gR rel vs t).get i=if i∈rel then f i else t.get i
 | [],vs,t,i,_,_,_=>by cases vs<;>simp[gR]
 | r::rel,[],t,i,h,_,_=>by simp at h
 | r::rel,v::vs,t,i,h,hf,hr=>by
   have hk:r<2^20-1:=Nat.lt_of_lt_of_le (hr r List.mem_cons_self) (by decide:1000000<=2^20-1)
   rw[gR,Bx (f:=f) (by simpa using h) (λk hk=>by simpa using hf (k+1) (by simpa using hk)) (λk hk=>hr k (List.mem_cons_of_mem _ hk)),Ts.get_set 20 _ _ _ _ hk]
   by_cases h1:i∈rel
   · grind
   · grind
theorem nr(st:St):∀rel:List Nat,ik st rel=rel.map st.ts.get
 | []=>rfl
 | i::is=>by simp[ik,nr st is]
theorem o6{n:Nat}:∀{l:List Nat},kp n l=true->∀k∈l,k<n
 | [],_,k,hk=>by cases hk
 | x::xs,h,k,hk=>by
   rw[kp,Bool.and_eq_true,ba]at h
   rcases List.mem_cons.1 hk with rfl|hk
   · exact h.1
   · exact o6 h.2 k hk
section
variable{cfg:cx}{C:bg}
theorem wM{k tn:Nat}{rel:List Nat}(ht:tn<1000000)(hrel:kp tn rel=true){st:St}(h1:st.tn=tn)(h2:st.ds=[])(h3:st.ro=none) :
 Wk cfg C k st λs=>∃J,s=sN tn rel (ik st rel) J st.o:=by
 intro D m a w hi htr
 have hr:∀k∈rel,k<tn:=o6 hrel
 have hget:∀i,(gR rel (ik st rel) (oW (λt=>aj m (st.ts.get t)) tn .nil)).get i=if i∈rel then st.ts.get i else if i<tn then .any (aj m (st.ts.get i))else bj:=λi=>by
  rw[Bx (f:=st.ts.get) (by rw[nr];simp) (λk hk=>by rw[nr];simp[List.getD_eq_getElem?_getD,hk]) (λk hk=>Nat.lt_trans (hr k hk) ht),AP ht,Ts.get_nil]
 refine⟨sN tn rel (ik st rel) (λt=>aj m (st.ts.get t)) st.o,D,m,⟨_,rfl⟩,⟨by rw[htr.size,h1];rfl,λt=>?_,λt=>?_,by rw[htr.defers,h2];rfl,λd hd=>(by cases hd),λi hi=>(by cases hi)⟩,h3.symm,by rw[h3];rfl,hi,λ_ _ _ _ _ _ h=>h⟩
 · show a.tmps.getD t undef=aj m ((gR rel (ik st rel) (oW (λt=>aj m (st.ts.get t)) tn .nil)).get t)
   rw[hget t]
   split
   · exact htr.at' t
   · split
     · simp only[aj];exact htr.at' t
     · rename_i h
       rw[gZ]
       have hs:=htr.size
       simp only[Array.getD]
       rw[dif_neg (by omega)]
 · show cY D m ((gR rel (ik st rel) (oW (λt=>aj m (st.ts.get t)) tn .nil)).get t)
   rw[hget t]
   split
   · exact htr.okt t
   · split
     · exact bQ (by simp[aq])
     · exact gc
def VW(cfg:cx)(C:bg)(kb tn:Nat)(rel:List Nat)(vs:List AV)(o:aC)(vs':List AV)(o':aC):Prop:=∀J,Wk cfg C kb (sN tn rel vs J o) λs=>∃J',s=sN tn rel vs' J' o'
theorem VW.refl{kb tn:Nat}{rel:List Nat}{vs:List AV}{o:aC}:VW cfg C kb tn rel vs o vs o:=λJ=>Wk.refl ⟨J,rfl⟩
theorem VW.of_eq{kb tn:Nat}{rel:List Nat}{vs vs':List AV}{o o':aC}(h1:vs=vs')(h2:o=o'):VW cfg C kb tn rel vs o vs' o':=by subst h1 h2;exact VW.refl
inductive nQ:List AV->List AV->Prop
 | nil:nQ [] []
 | same {v:AV} {vs vs':List AV}:nQ vs vs'->nQ (v::vs) (v::vs')
 | int {k:IntKind} {n:Int} {vs vs':List AV}:nQ vs vs'->nQ (.int k n::vs) (.any (.int k n)::vs')
 | bool {b:Bool} {vs vs':List AV}:nQ vs vs'->nQ (.bool b::vs) (.any (.bool b)::vs')
 | str {s:List UInt8} {vs vs':List AV}:nQ vs vs'->nQ (.str s::vs) (.any (.string ⟨⟨s⟩⟩)::vs')
 | any {v:AV} {c:Value} {vs vs':List AV}:(∀m,aj m v=c)->nQ vs vs'->nQ (v::vs) (.any c::vs')
theorem nQ.ok{D:Nat->Prop}{m:Nat->bo}:∀{vs vs':List AV},nQ vs vs'->vs.length=vs'.length/\∀i,aj m (vs'.getD i bj)=aj m (vs.getD i bj)/\(cY D m (vs.getD i bj)->cY D m (vs'.getD i bj)):=by
 intro vs vs' h
 have step:∀{v v':AV} {vs vs':List AV},aj m v'=aj m v->(cY D m v->cY D m v')->(vs.length=vs'.length/\∀i,aj m (vs'.getD i bj)=aj m (vs.getD i bj)/\(cY D m (vs.getD i bj)->cY D m (vs'.getD i bj)))->((v::vs).length=(v'::vs').length/\∀i,aj m ((v'::vs').getD i bj)=aj m ((v::vs).getD i bj)/\(cY D m ((v::vs).getD i bj)->cY D m ((v'::vs').getD i bj))):=by
  intro v v' vs vs' h1 h2 h3
  refine⟨by simp[h3.1],λi=>?_⟩
  cases i with
  | zero=>exact⟨h1,h2⟩
  | succ i=>exact h3.2 i
 have nid:∀{c:Value},cY D m (.any c):=bQ (by simp[aq])
 induction h with
 | nil=>exact⟨rfl,λi=>⟨rfl,id⟩⟩
 | same _ ih=>exact step rfl id ih
 | int _ ih=>exact step (by simp[aj]) (λ_=>nid) ih
 | bool _ ih=>exact step (by simp[aj]) (λ_=>nid) ih
 | str _ ih=>exact step (by simp[aj]) (λ_=>nid) ih
 | any hc _ ih=>exact step (by rw[hc m];simp[aj]) (λ_=>nid) ih
theorem Bw{R:AV->AV->Prop}:∀{rel:List Nat} {vs vs':List AV} {t t':Ts},vs.length=vs'.length->(∀i,R (vs.getD i bj) (vs'.getD i bj))->(∀i,R (t.get i) (t'.get i))->(∀k∈rel,k<1000000)->∀i,R ((gR rel vs t).get i) ((gR rel vs' t').get i)
 | [],vs,vs',t,t',hl,hv,h,_,i=>by cases vs<;>cases vs'<;>exact h i
 | r::rel,[],[],t,t',hl,hv,h,_,i=>h i
 | r::rel,v::vs,v'::vs',t,t',hl,hv,h,hr,i=>by
   have hk:r<2^20-1:=Nat.lt_of_lt_of_le (hr r List.mem_cons_self) (by decide:1000000<=2^20-1)
   refine Bw (rel:=rel) (vs:=vs) (vs':=vs') (by simpa using hl) (λi=>hv (i+1)) (λi=>?_) (λk hk=>hr k (List.mem_cons_of_mem _ hk)) i
   rw[Ts.get_set 20 _ _ _ _ hk,Ts.get_set 20 _ _ _ _ hk]
   split
   · exact hv 0
   · exact h i
 | r::rel,[],_::_,_,_,hl,_,_,_,_=>by cases hl
 | r::rel,_::_,[],_,_,hl,_,_,_,_=>by cases hl
theorem VW.any{kb tn:Nat}{rel:List Nat}{vs vs':List AV}{o:aC}(h:nQ vs vs')(hrel:kp 1000000 rel=true):VW cfg C kb tn rel vs o vs' o:=by
 intro J D m a w hi ht
 obtain⟨h1,h2⟩:=h.ok (D:=D) (m:=m)
 have key:=Bw (R:=λv v'=>aj m v'=aj m v/\(cY D m v->cY D m v')) (rel:=rel) (t:=oW J tn .nil) (t':=oW J tn .nil) h1 h2 (λi=>⟨rfl,id⟩) (o6 hrel)
 refine⟨sN tn rel vs' J o,D,m,⟨J,rfl⟩,⟨ht.size,λt=>?_,λt=>(key t).2 (ht.okt t),ht.defers,ht.dsD,ht.roD⟩,rfl,rfl,hi,λ_ _ _ _ _ _ h=>h⟩
 exact(ht.at' t).trans (key t).1.symm
theorem qq{f:AV->Option AV}(hu:f bj=some bj){v v':AV}(hv:f v=some v'):∀{d:Nat} {t t':Ts} {i:Nat},tz f t=some t'->tz f (Ts.set d t i v)=some (Ts.set d t' i v')
 | 0,t,t',i,h=>h
 | d+1,t,t',i,h=>by
   have parts:f t.val=some t'.val/\tz f t.left=some t'.left/\tz f t.right=some t'.right:=by
    cases t with
    | nil=>cases h;exact⟨hu,rfl,rfl⟩
    | node x l r=>
      simp only[tz,ag,Option.some.injEq]at h
      obtain⟨x',hx,l',hl,r',hr,rfl⟩:=h
      exact⟨hx,hl,hr⟩
   obtain⟨p1,p2,p3⟩:=parts
   unfold Ts.set
   cases Nat.beq i 0 with
   | true=>simp only[cond_true,tz,hv,p2,p3,ob]
   | false=>
     simp only[cond_false]
     cases Nat.beq (i%2) 1 with
     | true=>simp only[cond_true,tz,p1,qq hu hv (d:=d) p2,p3,ob]
     | false=>simp only[cond_false,tz,p1,qq hu hv (d:=d) p3,p2,ob]
theorem BC{f:AV->Option AV}(hu:f bj=some bj)(ha:∀v,f (.any v)=some (.any v)){J:Nat->Value}:∀{n:Nat} {t:Ts},tz f t=some t->tz f (oW J n t)=some (oW J n t)
 | 0,t,h=>h
 | n+1,t,h=>BC (n:=n) (t:=Ts.set 20 t n (.any (J n))) hu ha (qq hu (ha (J n)) h)
theorem Bj{f:AV->Option AV}(hu:f bj=some bj):∀{rel:List Nat} {vs vs':List AV} {t t':Ts},s_ f vs=some vs'->tz f t=some t'->tz f (gR rel vs t)=some (gR rel vs' t')
 | [],vs,vs',t,t',_,h=>by cases vs<;>cases vs'<;>exact h
 | r::rel,[],vs',t,t',hv,h=>by cases hv;exact h
 | r::rel,v::vs,vs',t,t',hv,h=>by
   simp only[s_,ag,Option.some.injEq]at hv
   obtain⟨v1,h1,vs1,h2,rfl⟩:=hv
   exact Bj (rel:=rel) (vs:=vs) (vs':=vs1) hu h2 (qq hu h1 h)
theorem VW.move(hK:nL cfg){kb tn:Nat}{rel:List Nat}{sel:List Nat}{vs vs':List AV}{o o':aC}(hlow:H6 C)(hkb:kb<=o.n)
 (hsel:∀s∈sel,kb<=s/\s<o.n) (hnd:sel.Nodup)
 (hle:∀p∈o.le,eG (C.lo+kb) p.2) (hle':o'.le=o.le) (hn:o'.n=kb+sel.length) (hlen:o'.os.length=o'.n)
 (hold:∀i,i<kb->o'.at i=o.at i/\eG (C.lo+kb) (o.at i))
 (hnew:∀t,t<sel.length->RA (C.lo+kb) (gL C.lo kb sel) (o.at (sel.getD t 0)) (o'.at (kb+t)))
 (hvs:s_ (jB (C.lo+kb) (gL C.lo kb sel) 20) vs=some vs'):VW cfg C kb tn rel vs o vs' o':=by
 intro J
 have hts:tz (jB (C.lo+kb) (gL C.lo kb sel) 20) (sN tn rel vs J o).ts=some (gR rel vs' (oW J tn .nil)):=Bj (f:=jB (C.lo+kb) (gL C.lo kb sel) 20) (rel:=rel) rfl hvs (BC (f:=jB (C.lo+kb) (gL C.lo kb sel) 20) (n:=tn) (t:=.nil) rfl (λ_=>rfl) rfl)
 refine(qI hK (st:=sN tn rel vs J o) hlow hkb hsel hnd hle hle' hn hlen hold hnew hts (λd hd=>by cases hd) (λi hi=>by cases hi)).mono λs hs=>⟨J,?_⟩
 rw[hs];rfl
end
section
variable{P:Program}{T:eA}{cfg:cx}(g:fV P T cfg){orcT:tD}(ho:wP cfg orcT){L:dx}{C:bg}
include g ho
theorem C6{n kb tn:Nat}{rel:List Nat}{b:Code}(htn:tn<1000000)(hrel:kp tn rel=true)(hL:s8 P cfg C L b){ι:Type}(vals:ι->List AV)(own:ι->aC)(μ:ι->Nat)(hkb:∀x,kb<=(own x).n){Q:AX×List AV×aC->Prop}
 (hr:∀x J,(q9 T cfg orcT L n C b (sN tn rel (vals x) J (own x)) (BR tn rel .ret)).wp λq=>match q.1 with
   | .normal=>∃y,μ y<μ x/\VW cfg C kb tn rel q.2.1 q.2.2 (vals y) (own y)
   | ax=>∃vs2 o2,VW cfg C kb tn rel q.2.1 q.2.2 vs2 o2/\Q (ax,vs2,o2)) {vs:List AV} {o:aC} (hk:o.n<=kb) (h0:∀J,Wk cfg C kb (sN tn rel vs J o) λs=>∃x J',s=sN tn rel (vals x) J' (own x)) (J:Nat->Value) :
 bJ P cfg C (.loop b) (sN tn rel vs J o) λr=>∃ax vs' o' J',Q (ax,vs',o')/\r=(ax,sN tn rel vs' J' o'):=by
 have hnone:∀{r:AX×St} {s:St},r.2.ro=s.ro->s.ro=none->r.2.ro=none:=λh1 h2=>h1.trans h2
 refine DQ (k:=kb) (Q':=λr=>(∃vs2 o2,VW cfg C kb tn rel (ik r.2 rel) r.2.o vs2 o2/\Q (r.1,vs2,o2))/\r.2.tn=tn/\r.2.ds=[]/\r.2.ro=none) ?_ hk ?_
 · refine FF (k:=kb) μ (λx s=>∃J',s=sN tn rel (vals x) J' (own x)) (h0 J) hk ?_
   rintro x s ⟨J1,rfl⟩
   have hs:=qE g ho hL (hr x J1)
   have hs2:bJ P cfg C b (sN tn rel (vals x) J1 (own x)) λr=>r.2.ro=none/\(BR tn rel Tr.ret r).wp λq=>match q.1 with
    | .normal=>∃y,μ y<μ x/\VW cfg C kb tn rel q.2.1 q.2.2 (vals y) (own y)
    | ax=>∃vs2 o2,VW cfg C kb tn rel q.2.1 q.2.2 vs2 o2/\Q (ax,vs2,o2):=λD m a w hi ht K hK=>hs D m a w hi ht K λr hq hro=>hK r ⟨hro,hq⟩ hro
   refine hs2.mono λr ⟨hro,hq⟩=>?_
   unfold BR at hq
   cases hb:(Nat.beq r.2.tn tn&&Jh r.2.ds)with
   | false=>rw[hb]at hq;exact hq.elim
   | true=>
     rw[hb,cond_true]at hq
     rw[Bool.and_eq_true,cK]at hb
     have hds:r.2.ds=[]:=by
      have:=hb.2
      cases hd:r.2.ds with
      | nil=>rfl
      | cons x xs=>rw[hd]at this;cases this
     simp only[Tr.wp]at hq
     unfold mK
     cases hx:r.1 with
     | normal=>
       rw[hx]at hq
       obtain⟨y,hy,hv⟩:=hq
       refine(wM htn hrel hb.1 hds hro).trans λs=>?_
       rintro⟨J2,rfl⟩
       exact(hv J2).mono λs2 ⟨J3,e⟩=>⟨y,hy,J3,e⟩
     | exit id=>rw[hx]at hq;exact⟨by rw[hx];exact hq,hb.1,hds,hro⟩
     | ret=>rw[hx]at hq;exact⟨by rw[hx];exact hq,hb.1,hds,hro⟩
 · rintro r ⟨⟨vs2,o2,hv,hq⟩,h1,h2,h3⟩
   refine(wM htn hrel h1 h2 h3).trans λs=>?_
   rintro⟨J2,rfl⟩
   exact(hv J2).mono λs ⟨J3,e⟩=>⟨_,_,_,J3,hq,by rw[e]⟩
omit ho in
theorem cR{b:Code}{tn:Nat}{rel:List Nat}{vw:fp}(htn:tn<1000000)(hrel:kp tn rel=true)(h:dG P cfg C b tn rel vw){st:St}{Q:AX×St->Prop}(hw:(fL tn rel vw st).wp Q):bJ P cfg C (.loop b) st Q:=by
 unfold fL at hw
 cases hb:(Nat.beq st.tn tn&&Jh st.ds&&Sz st.ro)with
 | false=>rw[hb]at hw;exact hw.elim
 | true=>
   rw[hb,cond_true]at hw
   rw[Bool.and_eq_true,Bool.and_eq_true,cK]at hb
   have hds:st.ds=[]:=by
    have:=hb.1.2
    cases hd:st.ds with
    | nil=>rfl
    | cons x xs=>rw[hd]at this;cases this
   have hro:st.ro=none:=by
    have:=hb.2
    cases hd:st.ro with
    | none=>rfl
    | some x=>rw[hd]at this;cases this
   cases hv:vw (ik st rel) st.o with
   | none=>rw[hv]at hw;exact hw.elim
   | some t=>
     rw[hv]at hw
     have hw:=Tr.wp_then (t:=t) hw
     refine I9 (k:=st.o.n) (wM htn hrel hb.1.1 hds hro) (Nat.le_refl _) λs=>?_
     rintro⟨J,rfl⟩
     refine(h _ _ t _ hv hw J).mono ?_
     rintro r ⟨ax,vs',o',J',hq,rfl⟩
     exact hq J'
end
def bE:Code->List (Nat×Code)
 | .seq a b=>bE a++bE b
 | .cond _ a b=>bE a++bE b
 | .block id b=>match b with
   | .loop c=>(id,c)::bE c
   | b=>bE b
 | .loop b=>bE b
 | .scope b=>bE b
 | _=>[]
theorem ju{P:Program}{cfg:cx}{C:bg}{L:dx}:∀{c:Code},(∀p∈bE c,∀e,L p.1=some e->∀st Q,(e st).wp Q->bJ P cfg C (.loop p.2) st Q)->s8 P cfg C L c
 | .seq a b,h=>by
   simp only[bE,List.mem_append]at h
   exact⟨ju λp hp=>h p (.inl hp),ju λp hp=>h p (.inr hp)⟩
 | .cond _ a b,h=>by
   simp only[bE,List.mem_append]at h
   exact⟨ju λp hp=>h p (.inl hp),ju λp hp=>h p (.inr hp)⟩
 | .block id b,h=>by
   have hl:∀c,b=.loop c->s8 P cfg C L (.block id b):=by
    rintro c rfl
    simp only[bE]at h
    exact⟨λ_ e he st Q hw=>h (id,c) List.mem_cons_self e he st Q hw,ju (c:=c) λp hp=>h p (List.mem_cons_of_mem _ hp)⟩
   cases b with
   | loop c=>exact hl c rfl
   | _=>exact⟨λhb=>(by cases hb),ju (by simpa only[bE]using h)⟩
 | .loop b,h=>ju (c:=b) (by simpa only[bE]using h)
 | .scope b,h=>ju (c:=b) (by simpa only[bE]using h)
 | .skip,_=>trivial
 | .region _ _ _,_=>trivial
 | .exit _,_=>trivial
 | .label _,_=>trivial
 | .goto _,_=>trivial
 | .ret,_=>trivial
 | .refuse _,_=>trivial
 | .rangeFunc _ _ _ _,_=>trivial
end Go.Ev
end
section
namespace Go.Ev
open Go Go.Proofs
noncomputable def bC(f:Nat):Func:=match aH tab f with
 | some p=>p.1
 | none=>default
noncomputable def aE(f:Nat):Code:=match aH tab f with
 | some p=>p.2
 | none=>.skip
noncomputable def lb(f i:Nat):Code:=((bE (aE f)).getD i (0,.skip)).2
abbrev VQ:Type:=AX×List AV×aC
abbrev EQ:Type:=AV×aC
def aW:dx:=λ_=>none
def j7(L:dx)(id:Nat)(e:St->Tr (AX×St)):dx:=λj=>bif Nat.beq j id then some e else L j
abbrev b7:aC:=⟨0,[],[]⟩
noncomputable def N3(ws:List aw)(f:Nat)(x:AX×St):Tr EQ:=aV (qj tab (Cw cfg ws) (bC f) x) .ret
noncomputable def rT(S:bq)(L:dx)(ws:List aw)(f i tn:Nat)(rel:List Nat)(vals:List AV)(J:Nat->Value)(o:aC):Tr VQ:=q9 tab (dX cfg S) (rD S) L 1000 (Cw cfg ws) (lb f i) (sN tn rel vals J o) (BR tn rel .ret)
noncomputable def bT(S:bq)(L:dx)(ws:List aw)(f:Nat)(args:List AV):Tr EQ:=q9 tab (dX cfg S) (rD S) L 1000 (Cw cfg ws) (aE f) (ij (bC f) args b7) (N3 ws f)
def tL:List (Nat×aw)->Bool
 | []=>true
 | _=>false
noncomputable def M_(f:Nat)(x:AX×St):Tr AV:=aV (qj tab (Cw cfg []) (bC f) x) λr=>bif tL r.2.le&&(jB 14 [] 20 r.1).isSome then .ret r.1 else .fail
noncomputable def pT(S:bq)(L:dx)(f:Nat)(args:List AV):Tr AV:=q9 tab (dX cfg S) (rD S) L 1000 (Cw cfg []) (aE f) (ij (bC f) args b7) (M_ f)
theorem zG:∀id,id<cfg.root.n->zi (cfg.root.at id)=false:=by decide
def fH(ws:List aw)(v:AV)(news:List aw)(r:EQ):Prop:=Wk cfg (Cw cfg ws) 0 ⟨.node r.1 .nil .nil,1,r.2,[],none⟩ λs=>s.o=⟨news.length,news,[]⟩/\s.ts.get 0=v
theorem fH.refl{ws:List aw}{v:AV}{news:List aw}:fH ws v news (v,⟨news.length,news,[]⟩):=Wk.refl ⟨rfl,rfl⟩
theorem fH.of{ws:List aw}{v v':AV}{o:aC}{news:List aw}(h1:v'=v)(h2:o=⟨news.length,news,[]⟩):fH ws v news (v',o):=by subst h1 h2;exact fH.refl
theorem Di:H6 (Cw cfg []):=λid hid=>by
 have h14:id<cfg.root.n:=hid
 have:ff (Cw cfg []).B id=cfg.root.at id:=by
  simp only[Cw,ff]
  rw[im (by omega)]
  simp only[cond_false,ew]
  rw[bt.2 (Nat.zero_le _),cond_true,Nat.sub_zero]
 rw[this]
 exact⟨d4.lv.loops id h14,λi hi=>d4.lv.root id h14 i hi⟩
theorem Ci{b:Nat}{ρ:List (Nat×Nat)}:∀{d:Nat} {v v':AV},jB b ρ d v=some v'->aq v=[]->v'=v:=by
 intro d
 induction d with
 | zero=>intro v v' h;cases h
 | succ d ih=>
   have ihl:∀{vs vs':List AV},s_ (jB b ρ d) vs=some vs'->bG vs=[]->vs'=vs:=by
    intro vs
    induction vs with
    | nil=>intro vs' h _;cases h;rfl
    | cons v vs ihv=>
      intro vs' h hi
      simp only[s_,ag,Option.some.injEq]at h
      obtain⟨v1,h1,vs1,h2,rfl⟩:=h
      simp only[bG,List.append_eq_nil_iff]at hi
      rw[ih h1 hi.1,ihv h2 hi.2]
   intro v v' h hi
   unfold jB at h
   cases v<;>simp only[ag,Option.some.injEq]at h<;>simp only[aq,List.append_eq_nil_iff,reduceCtorEq,List.cons_ne_self]at hi
   case func f a c=>obtain⟨a',ha,c',hc,rfl⟩:=h;rw[ihl ha hi.1,ihl hc hi.2]
   case iface t u=>obtain⟨u',hu,rfl⟩:=h;rw[ih hu hi]
   case agg cs=>obtain⟨a',ha,rfl⟩:=h;rw[ihl ha hi]
   case tuple cs=>obtain⟨a',ha,rfl⟩:=h;rw[ihl ha hi]
   all_goals exact h.symm
theorem fH.plain{v v':AV}{o:aC}(h1:v'=v)(hi:aq v=[])(hm:(jB 14 [] 20 v).isSome=true)(hle:o.le=[]):fH [] v [] (v',o):=by
 subst h1
 obtain⟨u,hu⟩:=Option.isSome_iff_exists.1 hm
 have e:=Ci hu hi
 subst e
 refine(qI d4.lv (C:=Cw cfg []) (st:=⟨.node u .nil .nil,1,o,[],none⟩) (kb:=0) (sel:=[]) (ts':=.node u .nil .nil) (o':=b7) Di (Nat.zero_le _) (λs hs=>by cases hs) List.nodup_nil (λp hp=>by rw[show(⟨.node u .nil .nil,1,o,[],none⟩:St).o=o from rfl,hle]at hp;cases hp) hle.symm rfl rfl (λi hi=>absurd hi (Nat.not_lt_zero i)) (λt ht=>absurd ht (Nat.not_lt_zero t)) ?_ (λd hd=>by cases hd) (λi hi=>by cases hi)).mono λs hs=>?_
 · have hu':jB ((Cw cfg []).lo+0) (gL (Cw cfg []).lo 0 []) 20 u=some u:=hu
   simp only[tz,hu',ob]
 · rw[hs];exact⟨rfl,rfl⟩
section
variable{S:bq}(hS:az Tryz.prog cfg S){L:dx}{ws:List aw}
include hS
theorem j_{f i tn:Nat}{rel:List Nat}(htn:bm tn 1000000=true)(hrel:kp tn rel=true)(hL:s8 Tryz.prog (dX cfg S) (Cw cfg ws) L (lb f i)){ι:Type}(vals:ι->List AV)(own:ι->aC)(μ:ι->Nat)(kb:Nat)(hkb:∀x,kb<=(own x).n){Q:VQ->Prop}
 (hr:∀x J,(rT S L ws f i tn rel (vals x) J (own x)).wp λq=>match q.1 with
   | .normal=>∃y,μ y<μ x/\VW cfg (Cw cfg ws) kb tn rel q.2.1 q.2.2 (vals y) (own y)
   | ax=>∃vs2 o2,VW cfg (Cw cfg ws) kb tn rel q.2.1 q.2.2 vs2 o2/\Q (ax,vs2,o2)) {vs:List AV} {o:aC} (hk:o.n<=kb) (h0:∀J,Wk cfg (Cw cfg ws) kb (sN tn rel vs J o) λs=>∃x J',s=sN tn rel (vals x) J' (own x)) (J:Nat->Value) :
 bJ Tryz.prog (dX cfg S) (Cw cfg ws) (.loop (lb f i)) (sN tn rel vs J o) λr=>∃ax vs' o' J',Q (ax,vs',o')/\r=(ax,sN tn rel vs' J' o'):=by
 have hW:∀{k:Nat} {st:St} {A:St->Prop},Wk cfg (Cw cfg ws) k st A->Wk (dX cfg S) (Cw cfg ws) k st A:=λh D m a w hi ht=>by
  obtain⟨s,D',m',hA,h1,h2,h3,h4,h5⟩:=h D m a w (dQ.to (cfg:=dX cfg S) (cfg':=cfg) rfl rfl hi) ht
  exact⟨s,D',m',hA,h1,h2,h3,dQ.to (cfg:=cfg) (cfg':=dX cfg S) rfl rfl h4,λD0 m0 o0 w0 ho hl he=>dk.to (cfg:=cfg) (cfg':=dX cfg S) rfl rfl (h5 D0 m0 o0 w0 ho hl (dk.to (cfg:=dX cfg S) (cfg':=cfg) rfl rfl he))⟩
 refine C6 (cV.good hS) (n5 cfg S) (kb:=kb) (n:=1000) (ba.1 htn) hrel hL vals own μ hkb (λx J=>?_) hk (λJ=>hW (h0 J)) J
 refine Tr.wp_mono (λq hq=>?_) (hr x J)
 revert hq
 cases q.1 with
 | normal=>exact λ⟨y,hy,hv⟩=>⟨y,hy,λJ=>hW (hv J)⟩
 | exit id=>exact λ⟨vs2,o2,hv,h⟩=>⟨vs2,o2,λJ=>hW (hv J),h⟩
 | ret=>exact λ⟨vs2,o2,hv,h⟩=>⟨vs2,o2,λJ=>hW (hv J),h⟩
theorem k7{f:Nat}{args:List AV}{v:AV}{news:List aw}(hb:aH tab f=some (bC f,aE f))(hlen:args.length<=1000)(hL:s8 Tryz.prog (dX cfg S) (Cw cfg ws) L (aE f))
 (h:(bT S L ws f args).wp (fH ws v news)):bR Tryz.prog cfg f args ws v news:=by
 refine cV.wsem hS hb hlen ((qE (cV.good hS) (n5 cfg S) hL h).mono λx hx=>?_)
 have hx:(N3 ws f x).wp (fH ws v news):=hx
 unfold N3 at hx
 cases he:qj tab (Cw cfg ws) (bC f) x with
 | none=>rw[he]at hx;exact hx.elim
 | some r=>rw[he]at hx;exact⟨r,rfl,hx⟩
end
theorem cp{S:bq}(hS:az Tryz.prog cfg S){L:dx}{f:Nat}{args:List AV}{v:AV}(hb:aH tab f=some (bC f,aE f))(hlen:args.length<=1000)(hL:s8 Tryz.prog (dX cfg S) (Cw cfg []) L (aE f))
 (h:(pT S L f args).wp (·=v)) (hi:aq v=[]):bR Tryz.prog cfg f args [] v []:=by
 refine cV.wsem hS hb hlen ((qE (cV.good hS) (n5 cfg S) hL h).mono λx hx=>?_)
 have hx:(M_ f x).wp (·=v):=hx
 unfold M_ at hx
 cases he:qj tab (Cw cfg []) (bC f) x with
 | none=>rw[he]at hx;exact hx.elim
 | some r=>
   rw[he]at hx
   have hx:(bif tL r.2.le&&(jB 14 [] 20 r.1).isSome then Tr.ret r.1 else .fail).wp (·=v):=hx
   cases hb:(tL r.2.le&&(jB 14 [] 20 r.1).isSome)with
   | false=>rw[hb]at hx;exact hx.elim
   | true=>
     rw[hb,cond_true]at hx
     have hx:r.1=v:=hx
     rw[Bool.and_eq_true]at hb
     have hle:r.2.le=[]:=by
      have:=hb.1
      cases hr:r.2.le with
      | nil=>rfl
      | cons a b=>rw[hr]at this;cases this
     exact⟨r,rfl,fH.plain hx hi (by rw[<-hx];exact hb.2) hle⟩
theorem qF{R:Type}{b:Bool}{t:Tr R}{Q:R->Prop}(h:(eh b t).wp Q):b=true/\t.wp Q:=by
 cases b with
 | true=>exact⟨rfl,h⟩
 | false=>exact h.elim
def jv(l:List Value)(j:Nat):Value:=l.getD j undef
def aN{R:Type}:List Bool->Tr R->Tr R
 | [],t=>t
 | c::cs,t=>eh c (aN cs t)
theorem cS{R:Type}{c:Bool}{cs:List Bool}{t:Tr R}{Q:R->Prop}(h:(aN (c::cs) t).wp Q):c=true/\(aN cs t).wp Q:=qF h
theorem bU{R:Type}{c:Bool}{cs:List Bool}{t:Tr R}{s:R}(h:(aN (c::cs) t).run=some s):c=true/\(aN cs t).run=some s:=bu h
def KT:List Bool->Prop
 | []=>True
 | c::cs=>c=true/\KT cs
theorem eM{R:Type}{t:Tr R}{Q:R->Prop}:∀{cs:List Bool},(aN cs t).wp Q->KT cs/\t.wp Q
 | [],h=>⟨trivial,h⟩
 | _::_,h=>by
   obtain⟨h1,h⟩:=cS h
   obtain⟨h2,h⟩:=eM h
   exact⟨⟨h1,h2⟩,h⟩
theorem aI{R:Type}{t:Tr R}{s:R}:∀{cs:List Bool},(aN cs t).run=some s->KT cs/\t.run=some s
 | [],h=>⟨trivial,h⟩
 | _::_,h=>by
   obtain⟨h1,h⟩:=bU h
   obtain⟨h2,h⟩:=aI h
   exact⟨⟨h1,h2⟩,h⟩
theorem ap{R:Type}{t:Tr R}{Q:R->Prop}(h:∀Q':R->Prop,(∀q,Q q->Q' q)->t.wp Q'):t.wp Q:=h Q λ_ h=>h
theorem ak{P:Program}{C:bg}{cfg':cx}{c:Code}:s8 P cfg' C aW c:=ju λp _ e he=>by cases he
theorem eC{P:Program}{C:bg}{cfg':cx}{L:dx}{c:Code}{ids:List Nat}(hids:(bE c).map (·.1)=ids)(h:∀i,i<ids.length->∀e,L (ids.getD i 0)=some e->∀st Q,(e st).wp Q->bJ P cfg' C (.loop ((bE c).getD i (0,.skip)).2) st Q):s8 P cfg' C L c:=by
 refine ju λp hp e he st Q hw=>?_
 obtain⟨i,hi⟩:=List.getElem?_of_mem hp
 have hlen:i<(bE c).length:=(List.getElem?_eq_some_iff.1 hi).1
 have hid:ids.getD i 0=p.1:=by
  rw[<-hids,List.getD_eq_getElem?_getD,List.getElem?_map,hi];rfl
 have:=h i (by rw[<-hids];simpa using hlen) e (by rw[hid];exact he) st Q hw
 rw[List.getD_eq_getElem?_getD,hi]at this
 exact this
theorem va{s:List UInt8}{i:Nat}(h:i<s.length):s.take (i+1)=s.take i++[s.getD i 0]:=by
 rw[List.take_add_one,List.getElem?_eq_getElem h,List.getD_eq_getElem?_getD,List.getElem?_eq_getElem h];rfl
theorem FV{α:Type}(s:List α):s.take s.length=s:=List.take_length
def plainW(e:dM):lq:=λargs ws=>match ws with
 | []=>ob (e args) λt=>some (t.bind λv=>.ret (v,[]))
 | _=>none
theorem CT{P:Program}{f:Nat}{e:dM}(h:∀args t v,e args=some t->t.run=some v->bR P cfg f args [] v []):rE P cfg f (gD cfg.root.n [] (plainW e)):=by
 refine gy d4.lv zG λargs ws t r ht hr=>?_
 unfold plainW at ht
 split at ht
 · rw[ag]at ht
   obtain⟨t0,h0,ht⟩:=ht
   cases ht
   obtain⟨v,hv,h2⟩:=Tr.run_bind hr
   cases h2
   exact⟨h args t0 v h0 hv,λx hx=>by cases hx⟩
 · cases ht
def bw(S:bq)(f:Nat)(e:dM):bq:=gu S f (gD 14 [] (plainW e))
theorem aA{S:bq}{f:Nat}{e:dM}(h:az Tryz.prog cfg S)(he:∀args t v,e args=some t->t.run=some v->bR Tryz.prog cfg f args [] v []):az Tryz.prog cfg (bw S f e):=bK h (CT he)
def bz(s:List UInt8)(a b:Int):Nat:=(s.filter λc=>decide (a<=(c.toNat:Int))&&decide ((c.toNat:Int)<=b)).length
theorem nC(s:List UInt8)(a b:Int):bz s a b<=s.length:=List.length_filter_le _ _
theorem Cl{s:List UInt8}{a b:Int}{i:Nat}(h:i<s.length):bz (s.take (i+1)) a b=bz (s.take i) a b+if a<=((s.getD i 0).toNat:Int)/\((s.getD i 0).toNat:Int)<=b then 1 else 0:=by
 unfold bz
 rw[va h,List.filter_append,List.length_append]
 congr 1
 split
 · rename_i h2;simp only[List.filter,h2.1,h2.2];rfl
 · rename_i h2
   by_cases h3:a<=((s.getD i 0).toNat:Int)
   · have h4:¬((s.getD i 0).toNat:Int)<=b:=λh=>h2 ⟨h3,h⟩
     simp only[List.filter,h3,h4];rfl
   · simp only[List.filter,h3];rfl
def KP:fp:=λvs o=>match vs,o with
 | [.str s,.int .u8 a,.int .u8 b,.int .i64 n,.int .i64 i],⟨0,[],[]⟩=>some (eh (Nat.ble s.length 1000000) (eh (aa n 0) (eh (aa i 0) (.ret (.exit 0,[.str s,.int .u8 a,.int .u8 b,.int .i64 (Int.ofNat (bz s a b)),.int .i64 (Int.ofNat s.length)],b7)))))
 | _,_=>none
def P5:dx:=j7 aW 0 (fL 30 [0,1,2,7,8] KP)
def Q5:dM:=λargs=>match args with
 | [.str s,.int .u8 a,.int .u8 b]=>some (eh (Nat.ble s.length 1000000) (.ret (.int .i64 (Int.ofNat (bz s a b)))))
 | _=>none
def T1:bq:=bw S7 195 Q5
theorem TW(s:List UInt8)(a b n:Int)(i:Nat)(J:Nat->Value){Q:VQ->Prop}:aO Q (rT S7 aW [] 195 0 30 [0,1,2,7,8] [.str s,.int .u8 a,.int .u8 b,.int .i64 n,.int .i64 (Int.ofNat i)] J b7) (b_ 1120338121224270224204)=((λ(u3 u4 u5:AV)(u0 u2:Int)(u1:Prop)=>(λ(ua:AV)(u6:Bool)(u7 u9 ub:Prop)=>(λ(uc:Prop)=>(u6=true->u1/\(u7->u7/\u7/\u1/\u7/\u7/\u7/\(ab u2 b=true->ae .i64 (Int.add n 1)=true/\u9/\Q (AX.normal,([u3,u4,u5,AV.int .i64 (Int.add n 1),ua],{ n:=0,os:=[],le:=[] })))/\(ab u2 b=false->uc))/\(ub->ub/\ub/\ub/\ub/\ub/\uc))/\(u6=false->Q (AX.exit 0,([u3,u4,u5,AV.int .i64 n,AV.int .i64 u0],{ n:=0,os:=[],le:=[] })))) (u9/\Q (AX.normal,([u3,u4,u5,AV.int .i64 n,ua],{ n:=0,os:=[],le:=[] })))) (AV.int .i64 (Int.add u0 1)) (not (ab (Int.ofNat (List.length s)) u0)) (ab a u2=true) (ae .i64 (Int.add u0 1)=true) (ab a u2=false)) (AV.str s) (AV.int .u8 a) (AV.int .u8 b) (Int.ofNat i) (Int.ofNat (UInt8.toNat (List.getD s i 0))) (bm i (List.length s)=true)):=by kernel_rfl
theorem Xk(s:List UInt8)(a b:Int){Q:EQ->Prop}:aO Q (bT S7 P5 [] 195 [.str s,.int .u8 a,.int .u8 b]) (b_ 1002)=(Nat.ble (List.length s) 1000000=true/\(∀J1:Nat->Value,Q (AV.int .i64 (Int.ofNat (bz s a b)),{ n:=0,os:=[],le:=[] }))):=by kernel_rfl
theorem Q1:dG Tryz.prog (dX cfg S7) (Cw cfg []) (lb 195 0) 30 [0,1,2,7,8] KP:=by
 intro vs o t Q hv hq J
 unfold KP at hv
 split at hv
 · rename_i s a b n i
   cases hv
   obtain⟨h1,hq⟩:=qF hq
   obtain⟨h2,hq⟩:=qF hq
   obtain⟨h3,hq⟩:=qF hq
   rw[aB]at h1
   rw[aS]at h2 h3
   subst h2 h3
   refine j_ n6 rfl rfl ak (ι:={i:Nat // i<=s.length}) (λx=>[.str s,.int .u8 a,.int .u8 b,.int .i64 (Int.ofNat (bz (s.take x.1) a b)),.int .i64 (Int.ofNat x.1)]) (λ_=>b7) (λx=>s.length-x.1) 0 (λ_=>Nat.le_refl _) (λx J=>?_) (Nat.le_refl _) (λJ=>Wk.refl ⟨⟨0,Nat.zero_le _⟩,J,rfl⟩) J
   obtain⟨i,hi⟩:=x
   dsimp only
   have hn:=nC (s.take i) a b
   rw[List.length_take]at hn
   have hsn:=@Cl s a b i
   refine ap λQ' hQ=>al ((TW s a b _ i J).mpr ?_)
   simp only[aD,reduceCtorEq,bA,bB,ne_eq]
   (repeat' first|exact trivial|refine⟨?_,?_⟩|intro)<;>first|omega|refine hQ _ ?_
   · have h:=hsn (by omega)
     rw[if_pos ⟨by assumption,by assumption⟩]at h
     exact⟨⟨i+1,by omega⟩,by dsimp only;omega,VW.of_eq (by dsimp only;rw[h];rfl) rfl⟩
   · have h:=hsn (by omega)
     rw[if_neg (by omega)]at h
     exact⟨⟨i+1,by omega⟩,by dsimp only;omega,VW.of_eq (by dsimp only;rw[h];rfl) rfl⟩
   · have h:=hsn (by omega)
     rw[if_neg (by omega)]at h
     exact⟨⟨i+1,by omega⟩,by dsimp only;omega,VW.of_eq (by dsimp only;rw[h];rfl) rfl⟩
   · obtain rfl:i=s.length:=by omega
     rw[FV]
     exact⟨_,_,VW.refl,hq⟩
 · cases hv
theorem Is:aH tab 195=some (bC 195,aE 195):=by kernel_rfl
theorem E2:(bE (aE 195)).map (·.1)=[0]:=by kernel_rfl
theorem Rb(s:List UInt8)(a b:Int)(h:s.length<=1000000):bR Tryz.prog cfg 195 [.str s,.int .u8 a,.int .u8 b] [] (.int .i64 (Int.ofNat (bz s a b))) []:=by
 refine k7 n6 (L:=P5) Is (by simp) (eC E2 λi hi e he st Q hw=>?_) ?_
 · have hi:i=0:=by simp at hi;omega
   subst hi
   cases he
   exact cR (cV.good n6) (by decide) rfl Q1 hw
 · refine ap λQ' hQ=>al ((Xk s a b).mpr ?_)
   simp only[aD,reduceCtorEq,bA,bB,ne_eq]
   (repeat' first|exact trivial|refine⟨?_,?_⟩|intro)<;>first|omega|refine hQ _ ?_
   exact fH.of rfl rfl
theorem SN:az Tryz.prog cfg T1:=aA n6 λargs t v he hv=>by
 unfold Q5 at he
 split at he
 · cases he
   obtain⟨h1,h2⟩:=bu hv
   cases h2
   exact Rb _ _ _ (aB.mp h1)
 · cases he
def dB(b:UInt8):Bool:=decide (48<=b.toNat)&&decide (b.toNat<=57)
def fk(l:List UInt8):Bool:=l.all dB
def numL(l:List UInt8):Nat:=l.foldl (λn b=>n*10+(b.toNat-48)) 0
def gK(s:List UInt8)(i:Nat):Nat:=numL (s.take i)*10^(i-s.length)
def eR(s:List UInt8)(e:Nat):Nat:=numL s*10^e
theorem C2(l:List UInt8)(b:UInt8):numL (l++[b])=numL l*10+(b.toNat-48):=by simp[numL,List.foldl_append]
theorem yC{s:List UInt8}{i:Nat}(h:i<s.length):gK s (i+1)=gK s i*10+((s.getD i 0).toNat-48):=by
 unfold gK
 rw[va h,C2,show i+1-s.length=0 by omega,show i-s.length=0 by omega];simp
theorem ye{s:List UInt8}{i:Nat}(h:s.length<=i):gK s (i+1)=gK s i*10:=by
 unfold gK
 rw[List.take_of_length_le (by omega:s.length<=i+1),List.take_of_length_le h,show i+1-s.length=(i-s.length)+1 by omega,Nat.pow_succ,Nat.mul_assoc]
theorem zK(s:List UInt8)(i:Nat):gK s i<=gK s (i+1):=by
 by_cases h:i<s.length
 · rw[yC h];omega
 · rw[ye (by omega)];omega
theorem Ac{s:List UInt8}{i j:Nat}(h:i<=j):gK s i<=gK s j:=by
 obtain⟨k,rfl⟩:∃k,j=i+k:=⟨j-i,by omega⟩
 induction k with
 | zero=>exact Nat.le_refl _
 | succ k ih=>exact Nat.le_trans (ih (by omega)) (zK s (i+k))
theorem vh(s:List UInt8)(e:Nat):gK s (s.length+e)=eR s e:=by
 unfold gK eR
 rw[List.take_of_length_le (by omega),show s.length+e-s.length=e by omega]
theorem mg{s:List UInt8}(h:fk s=true){i:Nat}(hi:i<s.length):48<=(s.getD i 0).toNat/\(s.getD i 0).toNat<=57:=by
 unfold fk at h
 rw[List.all_eq_true]at h
 have:=h (s.getD i 0) (by rw[List.getD_eq_getElem?_getD,List.getElem?_eq_getElem hi];simp)
 simpa [dB]using this
def magOk(s:List UInt8)(e:Nat):Bool:=Nat.ble (eR s e) 10000000000000000
def MJ:fp:=λvs o=>match vs,o with
 | [.str s,.int .i64 e,.int .i64 r,.int .i64 q,.int .i64 n,.int .i64 i],⟨0,[],[]⟩=>some (aN [Nat.ble s.length 1000,ab 0 e,ab e 1000,fk s,aa r 0,aa q 0,aa n 0,aa i 0]
   (.test (magOk s e.toNat) λb=>bif b then .ret (.exit 0,[.str s,.int .i64 e,.int .i64 0,.int .i64 0,.int .i64 (Int.ofNat (eR s e.toNat)),.int .i64 (Int.ofNat (s.length+e.toNat))],b7)
     else .all λJ=>.ret (.ret,[.str s,.int .i64 e,.int .i64 0,.int .i64 0,.any (J 0),.any (J 1)],b7)))
 | _,_=>none
def Tg:dx:=j7 aW 0 (fL 32 [0,1,4,5,6,7] MJ)
def SJ:dM:=λargs=>match args with
 | [.str s,.int .i64 e]=>some (aN [Nat.ble s.length 1000,ab 0 e,ab e 1000,fk s] (.test (magOk s e.toNat) λb=>bif b then .ret (.tuple [.int .i64 (Int.ofNat (eR s e.toNat)),.int .i64 1])else .ret (.tuple [.int .i64 0,.int .i64 0])))
 | _=>none
def T2:bq:=bw T1 135 SJ
theorem Xj(s:List UInt8)(e n:Int)(i:Nat)(J:Nat->Value){Q:VQ->Prop}:aO Q (rT S7 aW [] 135 0 32 [0,1,4,5,6,7] [.str s,.int .i64 e,.int .i64 0,.int .i64 0,.int .i64 n,.int .i64 (Int.ofNat i)] J b7) (b_ 1121412142704242)=((λ(u4 u5 u6:AV)(u0 u1 u2 u3:Int)=>(λ(ua uc ue:AV)(u7 u8 ud:Bool)(u9:Int)(ub:Prop)=>(λ(ug:AV)(uf:Bool)=>ae .i64 (Int.add u0 e)=true/\(u7=true->ae .i64 u2=true/\(u8=true->bm i (List.length s)=true/\ae .u8 u3=true/\ae .i64 u3=true/\ae .i64 u9=true/\(uf=true->Q (AX.ret,([u4,u5,u6,u6,ug,ua],{ n:=0,os:=[],le:=[] })))/\(uf=false->ub/\Q (AX.normal,([u4,u5,u6,u6,ug,uc],{ n:=0,os:=[],le:=[] }))))/\(u8=false->(ud=true->Q (AX.ret,([u4,u5,u6,u6,ue,ua],{ n:=0,os:=[],le:=[] })))/\(ud=false->ub/\Q (AX.normal,([u4,u5,u6,u6,ue,uc],{ n:=0,os:=[],le:=[] })))))/\(u7=false->Q (AX.exit 0,([u4,u5,u6,u6,AV.int .i64 n,ua],{ n:=0,os:=[],le:=[] })))) (AV.int .i64 u9) (not (ab u9 10000000000000000))) (AV.int .i64 u1) (AV.int .i64 (Int.add u1 1)) (AV.int .i64 u2) (not (ab (Int.add u0 e) u1)) (not (ab u0 u1)) (not (ab u2 10000000000000000)) (Int.add u2 u3) (ae .i64 (Int.add u1 1)=true)) (AV.str s) (AV.int .i64 e) (AV.int .i64 0) (Int.ofNat (List.length s)) (Int.ofNat i) (Int.mul 10 n) (Int.sub (Int.ofNat (UInt8.toNat (List.getD s i 0))) 48)):=by kernel_rfl
theorem Wa(s:List UInt8)(e:Int){Q:EQ->Prop}:aO Q (bT S7 Tg [] 135 [.str s,.int .i64 e]) (b_ 114527)=((λ(u0:Bool)=>Nat.ble (List.length s) 1000=true/\ab 0 e=true/\ab e 1000=true/\fk s=true/\(u0=true->(∀J1:Nat->Value,Q (AV.tuple [AV.int .i64 (Int.ofNat (eR s (Int.toNat e))),AV.int .i64 1],{ n:=0,os:=[],le:=[] })))/\(u0=false->(∀J1:Nat->Value,∀J2:Nat->Value,Q (AV.tuple [AV.int .i64 0,AV.int .i64 0],{ n:=0,os:=[],le:=[] })))) (magOk s (Int.toNat e))):=by kernel_rfl
theorem Ta:dG Tryz.prog (dX cfg S7) (Cw cfg []) (lb 135 0) 32 [0,1,4,5,6,7] MJ:=by
 intro vs o t Q hv hq J
 unfold MJ at hv
 split at hv
 · rename_i s e r q n i
   cases hv
   replace hq:=eM hq;obtain⟨⟨h1,h2,h3,h4,h5,h6,h7,h8,-⟩,hq⟩:=hq
   rw[aB]at h1
   rw[aK]at h2 h3
   rw[aS]at h5 h6 h7 h8
   subst h5 h6 h7 h8
   have hq:Tr.wp Q (bif magOk s e.toNat then .ret (.exit 0,[.str s,.int .i64 e,.int .i64 0,.int .i64 0,.int .i64 (Int.ofNat (eR s e.toNat)),.int .i64 (Int.ofNat (s.length+e.toNat))],b7)else .all λJ=>.ret (.ret,[.str s,.int .i64 e,.int .i64 0,.int .i64 0,.any (J 0),.any (J 1)],b7)):=hq
   refine j_ n6 rfl rfl ak (ι:={i:Nat // i<=s.length+e.toNat/\gK s i<=10000000000000000}) (λx=>[.str s,.int .i64 e,.int .i64 0,.int .i64 0,.int .i64 (Int.ofNat (gK s x.1)),.int .i64 (Int.ofNat x.1)]) (λ_=>b7) (λx=>s.length+e.toNat-x.1) 0 (λ_=>Nat.le_refl _) (λx J=>?_) (Nat.le_refl _) (λJ=>Wk.refl ⟨⟨0,Nat.zero_le _,by simp[gK,numL]⟩,J,by simp[gK,numL,sN]⟩) J
   obtain⟨i,hi,hp⟩:=x
   dsimp only
   have hlt:=@yC s i
   have hge:=@ye s i
   have hmono:i+1<=s.length+e.toNat->gK s (i+1)<=eR s e.toNat:=λh=>by rw[<-vh];exact Ac h
   have hdi:=@mg s h4 i
   refine ap λQ' hQ=>al ((Xj s e _ i J).mpr ?_)
   simp only[aD,reduceCtorEq,bA,bB,ne_eq]
   have no:10000000000000000<gK s (i+1)->i+1<=s.length+e.toNat->magOk s e.toNat=false:=λh h'=>by
    have:=hmono h'
    unfold magOk
    rw[wS];omega
   (repeat' first|exact trivial|refine⟨?_,?_⟩|intro)<;>first|omega|refine hQ _ ?_
   · have:=hlt (by omega)
     rw[no (by omega) (by omega),cond_false]at hq
     exact⟨_,_,VW.any (.same (.same (.same (.same (.int (.int .nil)))))) rfl,hq (jv [_,_])⟩
   · have h:=hlt (by omega)
     exact⟨⟨i+1,by omega,by omega⟩,by dsimp only;omega,VW.of_eq (by dsimp only;rw[h];congr 6;simp only[wi];omega) rfl⟩
   · have:=hge (by omega)
     rw[no (by omega) (by omega),cond_false]at hq
     exact⟨_,_,VW.any (.same (.same (.same (.same (.int (.int .nil)))))) rfl,hq (jv [_,_])⟩
   · have h:=hge (by omega)
     exact⟨⟨i+1,by omega,by omega⟩,by dsimp only;omega,VW.of_eq (by dsimp only;rw[h];congr 6;simp only[wi];omega) rfl⟩
   · obtain rfl:i=s.length+e.toNat:=by omega
     rw[vh]at hp ⊢
     have:magOk s e.toNat=true:=by unfold magOk;rw[aB];exact hp
     rw[this,cond_true]at hq
     exact⟨_,_,VW.refl,hq⟩
 · cases hv
theorem I4:aH tab 135=some (bC 135,aE 135):=by kernel_rfl
theorem EE:(bE (aE 135)).map (·.1)=[0]:=by kernel_rfl
theorem GR:az Tryz.prog cfg T2:=aA SN λargs t v he hv=>by
 unfold SJ at he
 split at he
 · rename_i s e
   cases he
   obtain⟨⟨h1,h2,h3,h4,-⟩,hv⟩:=aI hv
   rw[aB]at h1
   rw[aK]at h2 h3
   refine k7 n6 (L:=Tg) I4 (by simp) (eC EE λi hi e he st Q hw=>?_) ?_
   · have hi:i=0:=by simp at hi;omega
     subst hi
     cases he
     exact cR (cV.good n6) (by decide) rfl Ta hw
   · refine ap λQ' hQ=>al ((Wa s e).mpr ?_)
     simp only[aD,reduceCtorEq,bA,bB,ne_eq]
     have hv:Tr.run (bif magOk s e.toNat then .ret (.tuple [.int .i64 (Int.ofNat (eR s e.toNat)),.int .i64 1])else .ret (.tuple [.int .i64 0,.int .i64 0]))=some v:=hv
     (repeat' first|exact trivial|refine⟨?_,?_⟩|intro)<;>first|omega|assumption|(rename_i hm _;rw[hm]at hv;cases hv;exact hQ _ fH.refl)|(rename_i hm _ _;rw[hm]at hv;cases hv;exact hQ _ fH.refl)
 · cases he
end Go.Ev
end
