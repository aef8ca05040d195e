import Derived.Test.YtcffhjfdlflbgaaGreatDoorP14
set_option linter.all false
open List renaming getElem?_eq_getElem->ν,getElem?_append_right->ο
open Nat renaming mod_two_eq_zero_or_one->ξ
set_option linter.all false
set_option maxRecDepth 100000
set_option maxHeartbeats 4000000
namespace Go.Ev
open Go Go.RowKit
variable{b r id n:Nat}{D:Nat->Prop}{m m':Nat->bv}{l:bv}{x x':cD}{L:List bv}{ws:List cD}{st:St}
section
variable{cfg:cL}{C:bg}{st:St}
def xx:List (Nat×Nat)->Nat->Option Nat
 | [],_=>none
 | p::ps,i=>bif Nat.beq p.1 i then some p.2 else xx ps i
def To(b:Nat)(ρ:List (Nat×Nat))(i:Nat):Option Nat:=bif aS i b then some i else xx ρ i
def yw(f:AV->Option AV):List AV->Option (List AV)
 | []=>some []
 | v::vs=>ob (f v) λv'=>ob (yw f vs) λvs'=>some (v'::vs')
def kG(b:Nat)(ρ:List (Nat×Nat)):Nat->AV->Option AV
 | 0,_=>none
 | d+1,v=>match v with
   | .h id off=>ob (To b ρ id) λi=>some (.h i off)
   | .c id off len c=>ob (To b ρ id) λi=>some (.c i off len c)
   | .q id=>ob (To b ρ id) λi=>some (.q i)
   | .n id=>ob (To b ρ id) λi=>some (.n i)
   | .i f x y=>ob (yw (kG b ρ d) x) λx'=>ob (yw (kG b ρ d) y) λy'=>some (.i f x' y')
   | .m t v=>ob (kG b ρ d v) λv'=>some (.m t v')
   | .g cs=>ob (yw (kG b ρ d) cs) λcs'=>some (.g cs')
   | .d cs=>ob (yw (kG b ρ d) cs) λcs'=>some (.d cs')
   | v=>some v
def xB(f:AV->Option AV):Ts->Option Ts
 | .a0=>some .a0
 | .c0 v l r=>ob (f v) λv'=>ob (xB f l) λl'=>ob (xB f r) λr'=>some (.c0 v' l' r')
structure Fl(b:Nat)(ρ:List (Nat×Nat))(D D':Nat->Prop)(m m':Nat->bv):Prop where
 a0:∀i,D i->i<b->D' i/\m' i=m i
 mv:∀i j,xx ρ i=some j->D i->D' j/\m' j=m i
theorem QS{ρ:List (Nat×Nat)}{D':Nat->Prop}(h:Fl b ρ D D' m m'){i j:Nat}(hm:To b ρ i=some j)(hd:D i):D' j/\m' j=m i:=by
 unfold To at hm;cases hb:aS i b with
 | true=>
   rw[hb,cond_true,zAb]at hm;subst hm;exact h.a0 i hd (aU.1 hb)
 | false=>rw[hb,cond_false]at hm;exact h.mv i j hm hd
section
variable{b:Nat}{ρ:List (Nat×Nat)}{D D':Nat->Prop}{m m':Nat->bv}(h:Fl b ρ D D' m m')
include h
theorem aal{f:AV->Option AV}(hf:∀v v',f v=some v'->dh D m v->aj m' v'=aj m v/\dh D' m' v'):∀{vs vs':List AV},yw f vs=some vs'->fM D m vs->aD m' vs'=aD m vs/\fM D' m' vs'
 | [],vs',hm,_=>by cases hm;grind [aD,fQ]
 | v::vs,vs',hm,hok=>by
   simp only[yw,ag,zAb]at hm;obtain⟨v1,h1,vs1,h2,rfl⟩:=hm;obtain⟨a1,a2⟩:=fE.1 hok;obtain⟨b1,b2⟩:=hf v v1 h1 a1;obtain⟨c1,c2⟩:=aal hf h2 a2;grind [aD,fE]
theorem tG:∀{d:Nat} {v v':AV},kG b ρ d v=some v'->dh D m v->aj m' v'=aj m v/\dh D' m' v'
 | 0,v,v',hm,_=>by cases hm
 | d+1,v,v',hm,hok=>by
   have ih:∀{vs vs':List AV},yw (kG b ρ d) vs=some vs'->fM D m vs->aD m' vs'=aD m vs/\fM D' m' vs':=λh1 h2=>aal h (λv v' h1 h2=>tG h1 h2) h1 h2;have one:∀{id j n:Nat},To b ρ id=some j->(D id/\n<=(m id).c0)->m' j=m id/\(D' j/\n<=(m' j).c0):=λh1 h2=>by
    grind [QS]
   unfold kG at hm;cases v<;>simp only[ag,zAb]at hm
   case h id off=>
    obtain⟨j,hj,rfl⟩:=hm;obtain⟨e,hd⟩:=one hj (hok (id,0) (by simp[aC]));exact⟨by simp[aj,e],λi hi=>by grind [aC]⟩
   case c id off len c=>
    obtain⟨j,hj,rfl⟩:=hm;obtain⟨e,hd⟩:=one hj (hok (id,rI len c) (by simp[aC]));exact⟨by simp[aj,e],λi hi=>by grind [aC]⟩
   case q id=>
    obtain⟨j,hj,rfl⟩:=hm;obtain⟨e,hd⟩:=one hj (hok (id,0) (by simp[aC]));exact⟨by simp[aj,e],λi hi=>by grind [aC]⟩
   case n id=>
    obtain⟨j,hj,rfl⟩:=hm;obtain⟨e,hd⟩:=one hj (hok (id,0) (by simp[aC]));exact⟨by simp[aj,e],λi hi=>by grind [aC]⟩
   case i f x y=>
    obtain⟨x',hx,y',hy,rfl⟩:=hm;obtain⟨a1,a2⟩:=ih hx (λi hi=>hok i (by simp[aC,hi]));obtain⟨b1,b2⟩:=ih hy (λi hi=>hok i (by simp[aC,hi]));refine⟨by simp[aj,a1,b1],λi hi=>?_⟩;simp only[aC,List.mem_append]at hi;exact hi.elim (a2 i) (b2 i)
   case m t u=>
    obtain⟨u',hu,rfl⟩:=hm;obtain⟨a1,a2⟩:=tG hu (λi hi=>hok i (by grind [aC]));exact⟨by simp[aj,a1],λi hi=>a2 i (by grind [aC])⟩
   case g cs=>
    grind [aak,aj]
   case d cs=>
    grind [gh,aj]
   all_goals grind [aj,ek,aC]
theorem Ru{d:Nat}{vs vs':List AV}(h1:yw (kG b ρ d) vs=some vs')(h2:fM D m vs):aD m' vs'=aD m vs/\fM D' m' vs':=aal h (λv v' h1 h2=>tG h h1 h2) h1 h2
end
theorem wx{f:AV->Option AV}(hu:f bt=some bt):∀{t t':Ts} (i:Nat),xB f t=some t'->f (t.b0 i)=some (t'.b0 i)
 | .a0,t',i,h=>by cases h;grind [Ts.g0]
 | .c0 v l r,t',i,h=>by
   simp only[xB,ag,zAb]at h;obtain⟨v',hv,l',hl,r',hr,rfl⟩:=h;by_cases h0:i=0
   . subst h0;exact hv
   . rcases ξ i with h2|h2
     . rw[Ts.d0 _ i h0 h2,Ts.d0 _ i h0 h2];exact wx hu _ hr
     . rw[Ts.f0 _ i h0 h2,Ts.f0 _ i h0 h2];exact wx hu _ hl
def cR(b:Nat)(x:cD):Prop:=yu x/\∀i∈HL x,i.1<b
def WD(b:Nat)(ρ:List (Nat×Nat))(x x':cD):Prop:=(x'=x/\cR b x)\/∃cs cs' rw g,x=.a cs rw g/\yw (kG b ρ 20) cs=some cs'/\x'=.a cs' rw g
theorem wv{ρ:List (Nat×Nat)}{D':Nat->Prop}(h:Fl b ρ D D' m m'){o:Option Obj}(hr:fX D m l x o)(hx:cR b x):fX D' m' l x o:=by
 have lv:∀v,dh D m v->(∀i∈aC v,i.1<b)->aj m' v=aj m v/\dh D' m' v:=λv hv hb=>by
  have hs:∀i∈aC v,D' i.1/\m' i.1=m i.1:=λi hi=>h.a0 i.1 (hv i hi).1 (hb i hi);exact⟨ja v λi hi=>(hs i hi).2,λi hi=>⟨(hs i hi).1,by rw[(hs i hi).2];exact(hv i hi).2⟩⟩
 cases x with
 | b=>trivial
 | a cs rw g=>
   obtain⟨c,e,fz,hb,hc⟩:=hr;have hv:∀v∈cs,aj m' v=aj m v/\dh D' m' v:=λv hv=>lv v (df.1 hc.a0 v hv) λi hi=>hx.2 i (ga.2 ⟨v,hv,hi⟩);exact⟨c,e,fz,hb,⟨λi v hi=>by rw[hc.d0 i v hi,(hv v (List.mem_of_getElem? hi)).1],df.2 λv hm=>(hv v hm).2,hc.b0,hc.c0⟩⟩
 | f es=>
   obtain⟨en,ck,hb,he,ho⟩:=hr;have hv:∀e∈es,(aj m' e.1=aj m e.1/\dh D' m' e.1)/\(aj m' e.2=aj m e.2/\dh D' m' e.2):=λe hm=>
    ⟨lv e.1 (ho e hm).1 λi hi=>hx.2 i (List.mem_append.2 (.inl (ga.2 ⟨e.1,List.mem_map.2 ⟨e,hm,rfl⟩,hi⟩))),lv e.2 (ho e hm).2 λi hi=>hx.2 i (List.mem_append.2 (.inr (ga.2 ⟨e.2,List.mem_map.2 ⟨e,hm,rfl⟩,hi⟩)))⟩
   exact⟨en,ck,hb,he.trans (List.map_congr_left λe hm=>by grind),λe hm=>⟨(hv e hm).1.2,(hv e hm).2.2⟩⟩
 | d s p=>exact hr
 | c r=>exact absurd hx.1 (by nofun)
 | e=>exact hr
theorem OP{ρ:List (Nat×Nat)}{D':Nat->Prop}(h:Fl b ρ D D' m m'){o:Option Obj}(hr:fX D m l x o)(hx:WD b ρ x x'):fX D' m' l x' o:=by
 rcases hx with⟨rfl,hl⟩|⟨cs,cs',rw',g,rfl,hm,rfl⟩
 . exact wv h hr hl
 . obtain⟨c,e,fz,hb,hc⟩:=hr;obtain⟨h1,h2⟩:=Ru h hm hc.a0;refine⟨c,e,fz,hb,⟨λi v hi=>?_,h2,hc.b0,hc.c0⟩⟩;have e2:(aD m cs)[i]? = some (aj m' v):=by grind [d_]
   rw[d_,List.getElem?_map]at e2;obtain⟨u,hu,e3⟩:=Option.map_eq_some_iff.1 e2;rw[hc.d0 i u hu,e3]
theorem Lq{ρ:List (Nat×Nat)}(hx:WD b ρ x x'):oQ x'=oQ x/\Ep x'=Ep x:=by
 rcases hx with⟨rfl,_⟩|⟨cs,cs',rw',g,rfl,_,rfl⟩
 . simp
 . exact⟨rfl,rfl⟩
def Ns(C:bg):Prop:=∀id,id<C.lo->cR C.lo (gB C.B id)
def fY(lo:Nat):Nat->List Nat->List (Nat×Nat)
 | _,[]=>[]
 | j,s::ss=>(lo+s,lo+j)::fY lo (j+1) ss
theorem xE{lo:Nat}:∀{ss:List Nat} {j i k:Nat},xx (fY lo j ss) i=some k->∃t,t<ss.length/\i=lo+ss.getD t 0/\k=lo+(j+t)
 | [],j,i,k,h=>by cases h
 | s::ss,j,i,k,h=>by
   rw[fY,xx]at h;by_cases e:lo+s=i
   . rw[rY e,cond_true,zAb]at h;exact⟨0,by simp,by grind,by omega⟩
   . rw[ic e,cond_false]at h;obtain⟨t,h1,h2,h3⟩:=xE h;exact⟨t+1,by grind,by grind,by omega⟩
theorem oX(hK:qX cfg){kb:Nat}{sel:List Nat}{ts':Ts}{o':aB}(hlow:Ns C)(hkb:kb<=st.o.n)
 (hsel:∀s∈sel,kb<=s/\s<st.o.n) (hnd:sel.Nodup)
 (hle:∀p∈st.o.le,cR (C.lo+kb) p.2) (hle':o'.le=st.o.le) (hn:o'.n=kb+sel.length) (hlen:o'.os.length=o'.n)
 (hold:∀i,i<kb->o'.at i=st.o.at i/\cR (C.lo+kb) (st.o.at i))
 (hnew:∀t,t<sel.length->WD (C.lo+kb) (fY C.lo kb sel) (st.o.at (sel.getD t 0)) (o'.at (kb+t)))
 (hts:xB (kG (C.lo+kb) (fY C.lo kb sel) 20) st.ts=some ts') (hds:∀d∈st.ds,d<C.lo+kb) (hro:∀i,st.ro=some i->i<C.lo+kb) :
 Wk cfg C kb st λs=>s=⟨ts',st.tn,o',st.ds,st.ro⟩:=by
 intro D m a w hi ht;obtain⟨D',hD'⟩:∃D':Nat->Prop,D'=λid=>(id<C.lo+kb/\D id)\/∃t,t<sel.length/\id=C.lo+kb+t/\D (C.lo+sel.getD t 0):=⟨_,rfl⟩;obtain⟨m',hm'⟩:∃m':Nat->bv,m'=λid=>if id<C.lo+kb then m id else m (C.lo+sel.getD (id-(C.lo+kb)) 0):=⟨_,rfl⟩
 have mlow:∀i,i<C.lo+kb->m' i=m i:=λi h=>by grind
 have mnew:∀t,m' (C.lo+kb+t)=m (C.lo+sel.getD t 0):=λt=>by
  grind
 have ok:Fl (C.lo+kb) (fY C.lo kb sel) D D' m m':=by
  refine⟨λi hd hlt=>⟨by grind,mlow i hlt⟩,λi j hl hd=>?_⟩;grind [xE]
 have hselt:∀t,t<sel.length->kb<=sel.getD t 0/\sel.getD t 0<st.o.n:=λt h=>hsel _ η;have glow:∀i,i<C.lo+kb->get C o' i=get C st.o i/\cR (C.lo+kb) (get C st.o i):=λi h=>by
  unfold get gB;by_cases hc:C.lo<=i
  . grind [eK]
  . rw[jT hc,cond_false,cond_false,hle'];refine⟨rfl,?_⟩;simp only;have lw:cR (C.lo+kb) (gB C.B i):=⟨(hlow i δ).1,λj hj=>by have:=(hlow i δ).2 j hj;omega⟩;cases hx:fp st.o.le i with
    | none=>omega
    | some x=>
      have:∀le:List (Nat×cD),fp le i=some x->∃p∈le,p.2=x:=by
       intro le;induction le<;>grind [fp]
      grind
 have gnew:∀t,t<sel.length->WD (C.lo+kb) (fY C.lo kb sel) (get C st.o (C.lo+sel.getD t 0)) (get C o' (C.lo+kb+t)):=λt h=>by
  unfold get gB;rw[eK.2 (by omega:C.lo<=C.lo+sel.getD t 0),eK.2 (by omega:C.lo<=C.lo+kb+t),cond_true,cond_true,show C.lo+sel.getD t 0-C.lo=sel.getD t 0 by omega,show C.lo+kb+t-C.lo=kb+t by omega];grind
 have inj:∀t u,t<sel.length->u<sel.length->sel.getD t 0=sel.getD u 0->t=u:=λt u h1 h2 e=>by
  grind [List.pairwise_iff_getElem]
 have src:∀i,D' i->∃j,D j/\m' i=m j/\oQ (get C o' i)=oQ (get C st.o j)/\Ep (get C o' i)=Ep (get C st.o j)/\((i<C.lo+kb/\j=i)\/∃t,t<sel.length/\i=C.lo+kb+t/\j=C.lo+sel.getD t 0):=λi h=>by
  rw[hD']at h;rcases h with⟨h1,h2⟩|⟨t,h1,rfl,h2⟩
  . exact⟨i,h2,mlow i h1,by rw[(glow i h1).1],by rw[(glow i h1).1],.inl ⟨h1,rfl⟩⟩
  . have:=Lq (gnew t h1);exact⟨_,h2,mnew t,this.1,this.2,.inr ⟨t,h1,rfl,rfl⟩⟩
 have hinv:dX cfg D' m' C o' w:=by
  refine⟨λi hd=>?_,λi j hdi hdj hij hl hr=>?_,λi hd=>?_,λg hg=>?_,λi hid=>?_,λi hid=>hi.le i (by rw[hle']at hid;exact hid),hi.lo,hlen⟩
  . rw[hD']at hd;rcases hd with⟨h1,h2⟩|⟨t,h1,rfl,h2⟩
    . rw[mlow i h1,(glow i h1).1];exact wv ok (hi.a0 i h2) (glow i h1).2
    . rw[mnew t];exact OP ok (hi.a0 _ h2) (gnew t h1)
  . obtain⟨i',di,ei,li,ri,ci⟩:=src i hdi;obtain⟨j',dj,ej,lj,rj,cj⟩:=src j hdj;rw[ei,ej];refine hi.inj i' j' di dj (λe=>hij ?_) (by rw[<-li];exact hl) (by rw[<-rj];exact hr);rcases ci with⟨c1,rfl⟩|⟨t,c1,rfl,rfl⟩<;>rcases cj with⟨d1,rfl⟩|⟨u,d1,rfl,rfl⟩
    . exact e
    . have:=hselt u d1;omega
    . have:=hselt t c1;omega
    . have:=inj t u c1 d1 δ;omega
  . rw[hD']at hd;rcases hd with⟨h1,h2⟩|⟨t,h1,rfl,h2⟩<;>omega
  . obtain⟨a1,a2,a3⟩:=hi.c0 g hg;have hlt:g<C.lo+kb:=by have:=hK.G;have:=hi.lo;omega
    exact⟨by rw[hD'];exact .inl ⟨hlt,a1⟩,by rw[mlow g hlt];exact a2,by rw[mlow g hlt];exact a3⟩
  . obtain⟨a1,a2⟩:=hi.b0 i hid;have hlt:i<C.lo+kb:=by have:=hi.lo;omega
    exact⟨by rw[hD'];exact .inl ⟨hlt,a1⟩,by rw[(glow i hlt).1];exact a2⟩
 refine⟨_,D',m',rfl,⟨ht.b0,λt=>?_,λt=>?_,?_,λd hd=>by rw[hD'];exact .inl ⟨hds d hd,ht.e0 d hd⟩,λi h=>by rw[hD'];exact .inl ⟨hro i h,ht.f0 i h⟩⟩,rfl,?_,hinv,λD0 m0 o0 w0 ho hl he=>?_⟩
 . have:=wx (f:=kG (C.lo+kb) (fY C.lo kb sel) 20) rfl t hts;rw[ht.c0 t];exact(tG ok this (ht.d0 t)).1.symm
 . have:=wx (f:=kG (C.lo+kb) (fY C.lo kb sel) 20) rfl t hts;exact(tG ok this (ht.d0 t)).2
 . rw[ht.a0];exact List.map_congr_left λd hd=>by rw[mlow d (hds d hd)]
 . cases hr:st.ro with
   | none=>rfl
   | some i=>simp only[wo,Option.map_some,mlow i (hro i hr)]
 . have low0:∀i,D0 i->i<C.lo+kb:=λi h=>by have:=hl i h;omega
   refine⟨hinv,λi h=>by rw[hD'];exact .inl ⟨low0 i h,he.g0 i h⟩,λi h=>by rw[mlow i (low0 i h)];exact he.a0 i h,λi h=>?_,by simp only;omega,he.os,he.j0,he.c0,he.i0,he.f0,by simp only[hle'];exact he.m0,λi h hn=>?_⟩
   . rw[hD']at h;rcases h with⟨h1,h2⟩|⟨t,h1,rfl,h2⟩
     . exact he.l0 i h2
     . exact .inr δ
   . rw[hD']at h;rcases h with⟨h1,h2⟩|⟨t,h1,rfl,h2⟩
     . rw[mlow i h1];exact he.e0 i h2 hn
     . rw[mnew t];have:=hselt t h1;exact he.e0 _ h2 λh0=>by have:=hl _ h0;omega
end
def Cw(cfg:cL)(ws:List cD):bg:=⟨[(cfg.a0.n,⟨ws.length,ws.reverse,[]⟩),(0,cfg.a0)],cfg.a0.n+ws.length⟩
structure Aq where
 a0:List Nat
 ws:List cD
 ok:Bool
def xe:fg->fg
 | .a c=>.a c
 | .b _=>.b 0
def nC(f:AV->Aq->Option (AV×Aq)):List AV->Aq->Option (List AV×Aq)
 | [],q=>some ([],q)
 | v::vs,q=>ob (f v q) λp=>ob (nC f vs p.2) λp'=>some (p.1::p'.1,p'.2)
def b_(cs:List AV)(off n:Nat):List AV:=(cs.drop off).take n
def nX(r:Nat)(C:bg)(o:aB):Nat->AV->Aq->Option (AV×Aq)
 | 0,_,_=>none
 | d+1,v,q=>match v with
   | .c id off len c=>(match q.a0 with
     | []=>none
     | sz::szs=>ob (cellsOf (get C o id)) λcs=>some (.c (r+q.ws.length) 0 len (xe c),⟨szs,q.ws++[.a (b_ cs off (len*sz)) false none],q.ok&&(Nat.ble (off+len*sz) cs.length&&bc r (b_ cs off (len*sz)))⟩))
   | .g cs=>ob (nC (nX r C o d) cs q) λp=>some (.g p.1,p.2)
   | .i f a b=>ob (nC (nX r C o d) a q) λp=>ob (nC (nX r C o d) b p.2) λp'=>some (.i f p.1 p'.1,p'.2)
   | .m t v=>ob (nX r C o d v q) λp=>some (.m t p.1,p.2)
   | .h id off=>ok (aS id r) (some (.h id off,q))
   | .d _=>none
   | .q _=>none
   | .n _=>none
   | v=>some (v,q)
def VV(b b':Nat):Nat->List (Nat×Nat)
 | 0=>[]
 | n+1=>(b+n,b'+n)::VV b b' n
abbrev aav:Type:=List AV->List cD->Option (Tr (AV×List cD))
def TT(r b:Nat)(C:bg)(o:aB)(x:AV×List cD):Tr (AV×aB):=
 aT (kG r (VV b (C.lo+o.n) x.2.length) 20 x.1) λv=>.a0 (v,⟨x.2.length+o.n,x.2++o.os,o.le⟩)
def fl(r:Nat)(szs:List Nat)(e:aav):FG:=λC args o=>
 ob (nC (nX r C o 20) args ⟨szs,[],true⟩) λq=>ob (e q.1 q.2.ws) λt=>some (lu q.2.ok (t.i0 (TT r (r+q.2.ws.length) C o)))
def bu(P:Program)(cfg:cL)(f:FuncId)(args:List AV)(ws:List cD)(v:AV)(news:List cD):Prop:=
 ∀D m w,dX cfg D m (Cw cfg ws) ⟨0,[],[]⟩ w->fM D m args->jV P f (aD m args).toArray w λV w'=>∃D' m',V=aj m' v/\dh D' m' v/\dw cfg (Cw cfg ws) D m ⟨0,[],[]⟩ w D' m' ⟨news.length,news,[]⟩ w'
def XM(P:Program)(cfg:cL)(f:FuncId)(e:aav):Prop:=∀args ws t r,e args ws=some t->t.b0=some r->bu P cfg f args ws r.1 r.2/\∀x∈r.2,cR cfg.a0.n x
theorem C7{b b':Nat}:∀{n i k:Nat},xx (VV b b' n) i=some k->∃j,j<n/\i=b+j/\k=b'+j
 | 0,i,k,h=>by cases h
 | n+1,i,k,h=>by
   rw[VV,xx]at h;by_cases e:b+n=i
   . rw[rY e,cond_true,zAb]at h;exact⟨n,by omega,e.symm,h.symm⟩
   . rw[ic e,cond_false]at h;obtain⟨j,h1,h2,h3⟩:=C7 h;simp_all;omega
section
variable{cfg:cL}{C:bg}{o:aB}{D:Nat->Prop}{m:Nat->bv}{w:World}
def mL(r:Nat)(m:Nat->bv)(L:List bv)(id:Nat):bv:=if id<r then m id else L.getD (id-r) ⟨0,0,0⟩
def DL(r:Nat)(D:Nat->Prop)(L:List bv)(id:Nat):Prop:=(id<r/\D id)\/(r<=id/\id<r+L.length)
theorem Va(h:id<r):mL r m L id=m id:=if_pos h
theorem Lv{j:Nat}(h:L[j]? = some l):mL r m L (r+j)=l:=by
 grind [mL]
def JU(r:Nat)(D:Nat->Prop)(m:Nat->bv)(w:World)(x:cD)(l:bv):Prop:=
 ∃win,x=.a win false none/\bc r win/\fM D m win/\∃c e fz,w.heap[l.a0]? = some (.cells c e fz)/\∀i v,win[i]? = some v->c[l.b0+i]? = some (aj m v)
def M0(r:Nat)(D:Nat->Prop)(m:Nat->bv)(w:World)(L:List bv)(ws:List cD):Prop:=L.length=ws.length/\∀(j:Nat) (x:cD) (l:bv),ws[j]? = some x->L[j]? = some l->JU r D m w x l
theorem M0.a0(h:M0 r D m w L ws)(hx:JU r D m w x l):M0 r D m w (L++[l]) (ws++[x]):=by
 refine⟨by simp[h.1],λj y k hy hk=>?_⟩;by_cases e:j<ws.length
 . rw[List.getElem?_append_left e]at hy;rw[List.getElem?_append_left (by rw[h.1];omega)]at hk;exact h.2 j y k hy hk
 . rw[ο δ]at hy;rw[ο (by rw[h.1];omega)]at hk;grind
def Jw(r:Nat)(D:Nat->Prop)(m:Nat->bv)(w:World)(L:List bv)(q q':Aq)(S:List bv->Prop):Prop:=
 ∃L',q.ok/\M0 r D m w (L++L') q'.ws/\∀L'',S ((L++L')++L'')
section
variable(hi:dX cfg D m C o w)
include hi
theorem Bo{d:Nat}(ih:∀{v q v' q'},nX cfg.a0.n C o d v q=some (v',q')->dh D m v->q'.ok->∀L,M0 cfg.a0.n D m w L q.ws->Jw cfg.a0.n D m w L q q' λK=>aj (mL cfg.a0.n m K) v'=aj m v/\dh (DL cfg.a0.n D K) (mL cfg.a0.n m K) v') :
 ∀{vs:List AV} {q:Aq} {vs':List AV} {q':Aq},nC (nX cfg.a0.n C o d) vs q=some (vs',q')->fM D m vs->q'.ok->∀L,M0 cfg.a0.n D m w L q.ws->Jw cfg.a0.n D m w L q q' λK=>aD (mL cfg.a0.n m K) vs'=aD m vs/\fM (DL cfg.a0.n D K) (mL cfg.a0.n m K) vs'
 | [],q,vs',q',h,_,hq,L,hL=>by
   cases h;exact⟨[],hq,by grind,λL''=>⟨by rfl,fQ⟩⟩
 | v::vs,q,vs',q',h,hok,hq,L,hL=>by
   simp only[nC,ag,zAb,Prod.mk.injEq]at h;obtain⟨⟨v1,q1⟩,h1,⟨vs1,q2⟩,h2,rfl,rfl⟩:=h;obtain⟨a1,a2⟩:=fE.1 hok;have hq1:q1.ok=true:=by
    have mono:∀{d:Nat} {v:AV} {q:Aq} {r:AV×Aq},nX cfg.a0.n C o d v q=some r->r.2.ok->q.ok=true:=by
     intro d;induction d with
     | zero=>nofun
     | succ d ihd=>
       have hl:∀{vs:List AV} {q:Aq} {r:List AV×Aq},nC (nX cfg.a0.n C o d) vs q=some r->r.2.ok->q.ok=true:=by
        intro vs;induction vs with
        | nil=>intro q r h hr;cases h;omega
        | cons v vs ihv=>
          intro q r h hr;simp only[nC,ag,zAb]at h;grind
       intro v q r h hr;unfold nX at h;grind [ag,aA]
    have monoL:∀{vs:List AV} {q:Aq} {r:List AV×Aq},nC (nX cfg.a0.n C o d) vs q=some r->r.2.ok->q.ok=true:=by
     intro vs;induction vs with
     | nil=>intro q r h hr;cases h;omega
     | cons v vs ihv=>
       intro q r h hr;simp only[nC,ag,zAb]at h;grind
    grind
   obtain⟨L1,b1,b2,b3⟩:=ih h1 a1 hq1 L hL;obtain⟨L2,c1,c2,c3⟩:=Bo ih h2 a2 hq _ b2;refine⟨L1++L2,b1,by grind,λL''=>?_⟩;grind [aD,fE]
theorem Ys:∀{d:Nat} {v:AV} {q:Aq} {v':AV} {q':Aq},nX cfg.a0.n C o d v q=some (v',q')->dh D m v->q'.ok->∀L,M0 cfg.a0.n D m w L q.ws->Jw cfg.a0.n D m w L q q' λK=>aj (mL cfg.a0.n m K) v'=aj m v/\dh (DL cfg.a0.n D K) (mL cfg.a0.n m K) v'
 | 0,v,q,v',q',h,_,_,L,hL=>by cases h
 | d+1,v,q,v',q',h,hok,hq,L,hL=>by
   have ihL:=@Bo cfg C o D m w hi d (λ{v q v' q'}=>Ys (d:=d) (v:=v) (q:=q) (v':=v') (q':=q'));unfold nX at h;cases v<;>simp only[ag,aA,zAb,reduceCtorEq,Prod.mk.injEq]at h
   case c id off len c=>
    split at h
    . grind
    . rename_i sz szs hsz;simp only[ag,zAb,Prod.mk.injEq]at h;obtain⟨cs,hcs,rfl,rfl⟩:=h;simp only[zAa,eK]at hq;obtain⟨hq1,hle,hbl⟩:=hq;obtain⟨hD,hcap⟩:=hok (id,rI len c) (by simp[aC]);have hobj:=hi.a0 id hD;obtain⟨rw',g,hg⟩:∃rw' g,get C o id=.a cs rw' g:=by
       unfold cellsOf at hcs;grind
      rw[hg]at hobj;obtain⟨cc,e,fz,hb,hc⟩:=hobj;have win_at:∀i v,(b_ cs off (len*sz))[i]? = some v->cs[off+i]? = some v:=λi v hv=>by
       grind [b_]
      let l:bv:=⟨(m id).a0,(m id).b0+off,match c with|.a _=>0|.b k=>(m id).c0-k⟩
      have hW:JU cfg.a0.n D m w (.a (b_ cs off (len*sz)) false none) l:=
       ⟨_,rfl,hbl,df.2 λv hv=>by
        obtain⟨i,hi'⟩:=List.getElem?_of_mem hv;exact df.1 hc.a0 v (List.mem_of_getElem? (win_at i v hi')),cc,e,fz,hb,λi v hv=>by
        have:=hc.d0 _ v (win_at i v hv);grind⟩
      refine⟨[l],hq1,hL.a0 hW,λL''=>?_⟩;have hj:((L++[l])++L'')[q.ws.length]? = some l:=by
       rw[List.append_assoc,ο (Nat.le_of_eq hL.1),hL.1];simp
      refine⟨?_,λi hi'=>?_⟩
      . grind [aj,Lv,xe,TI]
      . simp only[aC,List.mem_singleton]at hi';subst hi';refine⟨.inr ⟨by simp,by grind⟩,?_⟩;grind [Lv,xe,rI]
   case g cs=>
    grind [aak,aj]
   case i f a b=>
    obtain⟨⟨a',q1⟩,h1,⟨b',q2⟩,h2,rfl,rfl⟩:=h;have hcat:nC (nX cfg.a0.n C o d) (a++b) q=some (a'++b',q2):=by
     have:∀{xs:List AV} {q q1 q2:Aq} {xs':List AV},nC (nX cfg.a0.n C o d) xs q=some (xs',q1)->nC (nX cfg.a0.n C o d) b q1=some (b',q2)->nC (nX cfg.a0.n C o d) (xs++b) q=some (xs'++b',q2):=by
      intro xs;induction xs with
      | nil=>intro q q1 q2 xs' h1 h2;cases h1;exact h2
      | cons x xs ih=>
        intro q q1 q2 xs' h1 h2;simp only[nC,ag,zAb,Prod.mk.injEq]at h1;obtain⟨p,hp,⟨ys,q3⟩,hp',rfl,rfl⟩:=h1;simp only[List.cons_append,nC,hp,ob,ih hp' h2]
     exact this h1 h2
    obtain⟨L',x1,x2,x3⟩:=ihL hcat (pi.2 ⟨λi hi'=>hok i (by simp[aC,hi']),λi hi'=>hok i (by simp[aC,hi'])⟩) hq L hL;refine⟨L',x1,x2,λL''=>?_⟩;obtain⟨y1,y2⟩:=x3 L'';have hlen:a'.length=a.length:=by
     have:∀{xs:List AV} {q:Aq} {r:List AV×Aq},nC (nX cfg.a0.n C o d) xs q=some r->r.1.length=xs.length:=by
      intro xs;induction xs with
      | nil=>intro q r h;cases h;rfl
      | cons x xs ih=>
        intro q r h;simp only[nC,ag,zAb]at h;obtain⟨p,_,p',hp',rfl⟩:=h;simp[ih hp']
     exact this h1
    rw[mF,mF]at y1;obtain⟨z1,z2⟩:=List.append_inj y1 (by rw[b7,b7,hlen]);obtain⟨u1,u2⟩:=pi.1 y2;refine⟨by simp only[aj];rw[z1,z2],λi hi'=>?_⟩;simp only[aC,List.mem_append]at hi';exact hi'.elim (u1 i) (u2 i)
   case m t u=>
    obtain⟨⟨u',q1⟩,h1,rfl,rfl⟩:=h;obtain⟨L',x1,x2,x3⟩:=Ys h1 (λi hi'=>hok i (by simpa [aC]using hi')) hq L hL;exact⟨L',x1,x2,λL''=>⟨by simp only[aj];rw[(x3 L'').1],λi hi'=>(x3 L'').2 i (by simpa [aC]using hi')⟩⟩
   case h id off=>
    obtain⟨h1,rfl,rfl⟩:=h;rw[aU]at h1;refine⟨[],hq,by simpa using hL,λL''=>⟨by simp only[aj,Va h1],λi hi'=>?_⟩⟩;simp only[aC,List.mem_singleton]at hi';subst hi';exact⟨.inl ⟨h1,(hok (id,0) (by simp[aC])).1⟩,by simp⟩
   all_goals
    obtain⟨rfl,rfl⟩:=h;exact⟨[],hq,by simpa using hL,λL''=>⟨by simp[aj],ek (by simp[aC])⟩⟩
end
end
section
variable{cfg:cL}(hK:qX cfg)(hRO:∀id,id<cfg.a0.n->Ep (cfg.a0.at id)=false)
theorem oR{o1:aB}(hle:o1.le=[]):(id<cfg.a0.n->get (Cw cfg ws) o1 id=cfg.a0.at id)/\(∀j x,ws[j]? = some x->get (Cw cfg ws) o1 (cfg.a0.n+j)=x)/\(∀j,get (Cw cfg ws) o1 (cfg.a0.n+ws.length+j)=o1.at j):=by
 refine⟨λh=>?_,λj x hj=>?_,λj=>?_⟩<;>grind [get,gB,Cw,fp,eK,List.getElem?_eq_some_iff,aB.at]
include hK hRO in
theorem Lk{C:bg}{o:aB}{w:World}(hi:dX cfg D m C o w)(hL:M0 cfg.a0.n D m w L ws) :
 dX cfg (DL cfg.a0.n D L) (mL cfg.a0.n m L) (Cw cfg ws) ⟨0,[],[]⟩ w:=by
 have low:∀v,dh D m v->(∀i∈aC v,i.1<cfg.a0.n)->aj (mL cfg.a0.n m L) v=aj m v/\dh (DL cfg.a0.n D L) (mL cfg.a0.n m L) v:=λv hv hb=>
  ⟨ja v λi hm=>Va (hb i hm),λi hm=>⟨.inl ⟨hb i hm,(hv i hm).1⟩,by rw[Va (hb i hm)];exact(hv i hm).2⟩⟩
 have win:∀j,j<L.length->∃x l,ws[j]? = some x/\L[j]? = some l/\JU cfg.a0.n D m w x l:=λj h=>by
  have h2:j<ws.length:=by rw[<-hL.1];omega
  exact⟨_,_,ν h2,ν h,hL.2 j _ _ (ν h2) (ν h)⟩
 have mvok:Fl cfg.a0.n [] D (DL cfg.a0.n D L) m (mL cfg.a0.n m L):=⟨λi hd h=>⟨.inl ⟨h,hd⟩,Va h⟩,λi j h=>by cases h⟩;refine⟨λid hd=>?_,λi j hdi hdj hij hl hr=>?_,λid hd=>?_,λg hg=>?_,λid hid=>?_,λid hid=>η,by grind [Cw],rfl⟩
 . rcases hd with⟨h1,h2⟩|⟨h1,h2⟩
   . rw[(oR rfl).1 h1,Va h1,<-(hi.b0 id h1).2];exact wv mvok (hi.a0 id h2) ⟨by rw[(hi.b0 id h1).2];exact hK.a0 id h1,λi hm=>by rw[(hi.b0 id h1).2]at hm;exact hK.b0 id h1 i hm⟩
   . obtain⟨j,rfl⟩:∃j,id=cfg.a0.n+j:=⟨id-cfg.a0.n,by omega⟩;obtain⟨x,l,hx,hl,cs,rfl,hbl,hok,c,e,fz,hb,hat⟩:=win j δ;rw[(oR (cfg:=cfg) (id:=0) rfl).2.1 j _ hx,Lv hl];have hlow:∀v∈cs,aj (mL cfg.a0.n m L) v=aj m v/\dh (DL cfg.a0.n D L) (mL cfg.a0.n m L) v:=λv hv=>low v (df.1 hok v hv) λi hm=>abm hbl i (ga.2 ⟨v,hv,hm⟩);exact⟨c,e,fz,hb,⟨λi v hv=>by grind,df.2 λv hv=>(hlow v hv).2,λh=>η,λs h=>η⟩⟩
 . exfalso;rcases hdj with⟨h1,h2⟩|⟨h1,h2⟩
   . grind [oR]
   . obtain⟨k,rfl⟩:∃k,j=cfg.a0.n+k:=⟨j-cfg.a0.n,by omega⟩;obtain⟨x,l,hx,hl',cs,rfl,_⟩:=win k δ;rw[(oR (cfg:=cfg) (id:=0) rfl).2.1 k _ hx]at hr;cases hr
 . rcases hd with⟨h1,h2⟩|⟨h1,h2⟩
   . grind [Cw]
   . have:=hL.1;grind [Cw]
 . obtain⟨a1,a2,a3⟩:=hi.c0 g hg;have:=hK.G;exact⟨.inl ⟨by omega,a1⟩,by grind [Va],by grind [Va]⟩
 . exact⟨.inl ⟨hid,(hi.b0 id hid).1⟩,(oR rfl).1 hid⟩
theorem fW{P:Program}{f:FuncId}{szs:List Nat}{e:aav}(hK:qX cfg)(hRO:∀id,id<cfg.a0.n->Ep (cfg.a0.at id)=false)(h:XM P cfg f e):tD P cfg f (fl cfg.a0.n szs e):=by
 intro C args o t r ht hr;unfold fl at ht;rw[ag]at ht;obtain⟨⟨args',q⟩,hcan,ht⟩:=ht;simp only[ag,zAb]at ht;obtain⟨t0,he,rfl⟩:=ht;obtain⟨hq,hr⟩:=bG hr;obtain⟨⟨v,news⟩,hv,hr⟩:=Tr.g0 hr;obtain⟨hfact,hlow⟩:=h args' q.ws t0 (v,news) he hv;unfold TT at hr;obtain⟨v',hmv,hr⟩:=ar hr;cases hr;simp only at hmv hfact hlow ⊢;refine⟨λD m w hi hok=>?_,λhl=>?_⟩
 . have hW0:M0 cfg.a0.n D m w [] []:=⟨rfl,λj x l hj=>by simp⟩;obtain⟨L',_,hL,hS⟩:=Bo hi (d:=20) (λ{v q v' q'}=>Ys hi) hcan hok hq [] hW0;have hS:=hS [];simp only[List.nil_append,List.append_nil]at hL hS;obtain⟨hc,hok'⟩:=hS;rw[<-hc];refine(hfact _ _ w (Lk hK hRO hi hL) hok').a0 ?_;rintro V w' ⟨D',m',rfl,hv',hx⟩;have hlo:=hi.lo;have hframe:∀k,k<w.heap.size->w'.heap[k]? = w.heap[k]? := λk hk=>hx.f0 k hk λi hd ho=>by
    exfalso;have hlt:i<cfg.a0.n+q.ws.length:=by
     rcases hd with⟨h1,_⟩|⟨_,h2⟩
     . omega
     . rw[<-hL.1];omega
    grind [dQ,jT,Cw,fp]
   have hfresh:∀i,D' i->¬DL cfg.a0.n D L' i->w.heap.size<=(m' i).a0:=λi hd hn=>(hx.e0 i hd hn).resolve_right λ⟨j,hj,ho,_⟩=>by
    have hlt:j<cfg.a0.n+q.ws.length:=by
     rcases hj with⟨h1,_⟩|⟨_,h2⟩
     . omega
     . rw[<-hL.1];omega
    grind [dQ,jT,Cw,fp]
   obtain⟨D2,hD2⟩:∃D2:Nat->Prop,D2=λid=>D id\/∃j,j<news.length/\id=C.lo+o.n+j/\D' (cfg.a0.n+q.ws.length+j):=⟨_,rfl⟩;obtain⟨m2,hm2⟩:∃m2:Nat->bv,m2=λid=>if id<C.lo+o.n then m id else m' (cfg.a0.n+q.ws.length+(id-(C.lo+o.n))):=⟨_,rfl⟩
   have m2low:∀i,i<C.lo+o.n->m2 i=m i:=λi h=>by grind
   have m2new:∀j,m2 (C.lo+o.n+j)=m' (cfg.a0.n+q.ws.length+j):=λj=>by
    grind
   have hd'low:∀i,D' i->i<cfg.a0.n->D i/\m' i=m i:=λi hd h=>by
    rcases hx.l0 i hd with h1|h1
    . have:=hx.a0 i h1;rcases h1 with⟨_,h2⟩|⟨h2,_⟩<;>grind [Va]
    grind [Cw]
   have mvok:Fl cfg.a0.n (VV (cfg.a0.n+q.ws.length) (C.lo+o.n) news.length) D' D2 m' m2:=by
    refine⟨λi hd h=>?_,λi j hl hd=>?_⟩<;>grind [C7]
   obtain⟨hcv,hokv⟩:=tG mvok hmv hv';have hnl:news.length=(⟨news.length,news,[]⟩:aB).n:=rfl;have gold:∀i,i<C.lo+o.n->get C ⟨news.length+o.n,news++o.os,o.le⟩ i=get C o i:=λi h=>ta (o1:=⟨news.length,news,[]⟩) (o:=o) rfl h;have gnew:∀j,j<news.length->get C ⟨news.length+o.n,news++o.os,o.le⟩ (C.lo+o.n+j)=(⟨news.length,news,[]⟩:aB).at j:=λj h=>by
    have:=AE (C:=C) (o1:=⟨news.length,news,[]⟩) (o:=o) (i:=C.lo+o.n+j) rfl δ δ;rw[show C.lo+o.n+j-(C.lo+o.n)=j by omega]at this;exact this
   have hold:∀i,D i->i<C.lo+o.n:=hi.lt;have hnew_low:∀j,j<news.length->cR cfg.a0.n ((⟨news.length,news,[]⟩:aB).at j):=λj h=>by
    grind [aB.at]
   have hinv:dX cfg D2 m2 C ⟨news.length+o.n,news++o.os,o.le⟩ w':=by
    have hi':dX cfg D m C o w':=hi.d0 λj hj hlv=>hframe _ ((hi.a0 j hj).a0 hlv);refine⟨λid hd=>?_,λi j hdi hdj hij hl hr=>?_,λid hd=>?_,λg hg=>?_,λid hid=>?_,λid hid=>hi.le id hid,hi.lo,by simp[hi.e0]⟩
    . rw[hD2]at hd;rcases hd with hd|⟨j,hj,rfl,hd⟩
      . rw[gold id (hold id hd),m2low id (hold id hd)];exact(hi'.a0 id hd).b0 (λi h=>by grind) λi h=>m2low i (hold i h)
      . rw[gnew j hj,m2new];have:=hx.b0.a0 _ hd;rw[(oR (cfg:=cfg) (id:=0) rfl).2.2 j]at this;grind [wv]
    . rw[hD2]at hdi hdj;have isnew:∀j,j<news.length->D' (cfg.a0.n+q.ws.length+j)->w.heap.size<=(m' (cfg.a0.n+q.ws.length+j)).a0:=λj hj hd=>hfresh _ hd λh=>by
       rcases h with⟨h1,_⟩|⟨_,h2⟩
       . omega
       . rw[hL.1]at h2;omega
      rcases hdi with hdi|⟨a,ha,rfl,hdi⟩<;>rcases hdj with hdj|⟨b,hb,rfl,hdj⟩
      . rw[gold i (hold i hdi)]at hl;rw[gold j (hold j hdj)]at hr;rw[m2low i (hold i hdi),m2low j (hold j hdj)];exact hi.inj i j hdi hdj hij hl hr
      . rw[gold i (hold i hdi)]at hl;rw[m2low i (hold i hdi),m2new];have h1:=(hi.a0 i hdi).a0 hl;grind
      . rw[gold j (hold j hdj)]at hr;rw[m2low j (hold j hdj),m2new];have h1:=(hi.a0 j hdj).a0 (mY hr);grind
      . rw[gnew a ha]at hl;rw[gnew b hb]at hr;rw[m2new,m2new];refine hx.b0.inj _ _ hdi hdj δ ?_ ?_
        . rw[(oR (cfg:=cfg) (id:=0) rfl).2.2 a];omega
        . rw[(oR (cfg:=cfg) (id:=0) rfl).2.2 b];omega
    . grind
    . obtain⟨a1,a2,a3⟩:=hi.c0 g hg;grind
    . obtain⟨a1,a2⟩:=hi.b0 id hid;grind
   have hfr2:∀i,D2 i->¬D i->w.heap.size<=(m2 i).a0:=λi h hn=>by
    rw[hD2]at h;rcases h with h|⟨j,hj,rfl,hd⟩
    . grind
    . rw[m2new];refine hfresh _ hd λh=>?_;rcases h with⟨h1,_⟩|⟨_,h2⟩
      . omega
      . rw[hL.1]at h2;omega
   refine⟨D2,m2,hcv.symm,hokv,⟨hinv,λi h=>by grind,λi h=>m2low i (hold i h),λi h=>?_,by simp,hx.os,hx.j0,hx.c0,hx.i0,λk hk _=>hframe k hk,rfl,λi h hn=>.inl (hfr2 i h hn)⟩,λ_=>⟨hframe,hfr2⟩⟩;grind
 . exact fh.e0 (o1:=⟨news.length,news,[]⟩) hl rfl
end
section
variable{P:Program}{T:fm}{cfg:cL}(g:xS P T cfg){S:aQ}(hS:ak P cfg S)
include g hS
theorem xS.c0{f:FuncId}{fn:Func}{c:Code}(hb:aY T f=some (fn,c)){args:List AV}(hlen:args.length<=1000){v:AV}{news:List cD}
 (h:bN P (cH cfg S) (Cw cfg ws) c (jS fn args ⟨0,[],[]⟩) λx=>∃r,wj T (Cw cfg ws) fn x=some r/\Wk cfg (Cw cfg ws) 0 ⟨.c0 r.1 .a0 .a0,1,r.2,[],none⟩ λs=>s.o=⟨news.length,news,[]⟩/\s.ts.b0 0=v):bu P cfg f args ws v news:=by
 intro D m w hi hok;have hi':dX (cH cfg S) D m (Cw cfg ws) ⟨0,[],[]⟩ w:=dX.to (cfg:=cfg) (cfg':=cH cfg S) rfl rfl hi;refine .inl (HX g.e0 hb hlen h hi' hok λr D' m' w' hr hv he=>?_);have he':dw cfg (Cw cfg ws) D m ⟨0,[],[]⟩ w D' m' r.2 w':=dw.to (cfg:=cH cfg S) (cfg':=cfg) rfl rfl he;have ht:TR D' m' ⟨.c0 r.1 .a0 .a0,1,r.2,[],none⟩ ⟨#[aj m' r.1],[]⟩:=by
  refine⟨rfl,λt=>?_,λt=>?_,rfl,λd hd=>η,λi hi=>η⟩
  . by_cases e:t=0
    . subst e;rfl
    . have h1:(Ts.c0 r.1 .a0 .a0).b0 t=bt:=by
       rcases ξ t with h2|h2
       . rw[Ts.d0 _ t e h2];exact Ts.g0 _
       . rw[Ts.f0 _ t e h2];exact Ts.g0 _
      rw[h1,td];simp[Array.getD,e]
  . by_cases e:t=0
    . subst e;exact hv
    . have h1:(Ts.c0 r.1 .a0 .a0).b0 t=bt:=by
       rcases ξ t with h2|h2
       . rw[Ts.d0 _ t e h2];exact Ts.g0 _
       . rw[Ts.f0 _ t e h2];exact Ts.g0 _
      rw[h1];exact iy
 obtain⟨s,D2,m2,⟨ho,hvs⟩,h1,_,_,h4,h5⟩:=hr D' m' _ w' he'.b0 ht;have hat:=h1.c0 0;have hok0:=h1.d0 0;rw[hvs]at hat hok0;refine⟨D2,m2,by rw[<-hat];rfl,hok0,?_⟩;have:=h5 D m ⟨0,[],[]⟩ w (Nat.le_refl _) hi.lt he';rw[ho]at this;exact this
end
abbrev cx:Type:=Nat->Option (St->Tr (AX×St))
section
variable{R:Type}
abbrev xi(R:Type):Type:=fm->cL->zy->cx->Nat->ol R->bg->St->(AX×St->Tr R)->Tr R
def PJ:xi R:=λ_ _ _ _ _ _ _ st K=>K (.a,st)
def Yv(a b:Code):xi R:=λ_ _ _ _ _ code C st K=>code C a st λx=>rK (code C b) x K
def Pe(c:Operand)(a b:Code):xi R:=λ_ cfg _ _ _ code C st K=>aT (fj cfg.G st.ts c) (CG (λc=>code C c st K) a b)
def BB:Code->Bool
 | .loop _=>true
 | _=>false
def Hw(id:Nat)(b:Code)(code:ol R)(C:bg)(st:St)(K:AX×St->Tr R)(e:Option (St->Tr (AX×St))):Tr R:=match e with
 | some e=>(e st).l0 λr=>K (lQ id r)
 | none=>code C b st λr=>K (lQ id r)
def I5(id:Nat)(b:Code):xi R:=λ_ _ _ L _ code C st K=>bif BB b then Hw id b code C st K (L id)else code C b st λr=>K (lQ id r)
def TW(b:Code):xi R:=λ_ _ _ _ _ code C st K=>code C b st λx=>rK (code C (.loop b)) x K
def Qm(b:Code):xi R:=λ_ _ _ _ _ code C st K=>code C b st K
def UP(id:Nat):xi R:=λ_ _ _ _ _ _ _ st K=>K (.b id,st)
def Zx:xi R:=λ_ _ _ _ _ _ _ st K=>K (.c,st)
def Ge(ops:Array Oper)(draw:Bool):xi R:=λP cfg orcT _ n _ C st K=>
 (wO P cfg (abQ P cfg orcT false (rx P cfg orcT n)) C (ad_ (rx P cfg orcT n)) (abQ P cfg orcT true (rx P cfg orcT n)) ops draw st .a0).i0 λst'=>K (.a,st')
def ah8(g:Operand)(ps:Array Tmp)(assign body:Code):xi R:=λP cfg orcT _ n _ C st K=>(adZ g ps assign body P cfg orcT (rx P cfg orcT n) C st .a0).i0 K
def Uv:xi R:=λ_ _ _ _ _ _ _ _ _=>.c0
def JH:Code->xi R
 | .skip=>PJ
 | .label _=>PJ
 | .seq a b=>Yv a b
 | .cond c a b=>Pe c a b
 | .block id b=>I5 id b
 | .loop b=>TW b
 | .scope b=>Qm b
 | .exit id=>UP id
 | .ret=>Zx
 | .region _ ops draw=>Ge ops draw
 | .rangeFunc g ps assign body=>ah8 g ps assign body
 | _=>Uv
def xz(P:fm)(cfg:cL)(orcT:zy)(L:cx):Nat->ol R
 | 0,_,_,_,_=>.c0
 | n+1,C,c,st,K=>JH c P cfg orcT L n (xz P cfg orcT L n) C st K
end
def qI(P:Program)(cfg:cL)(C:bg)(L:cx):Code->Prop
 | .seq a b=>qI P cfg C L a/\qI P cfg C L b
 | .cond _ a b=>qI P cfg C L a/\qI P cfg C L b
 | .block id b=>(BB b->∀e,L id=some e->∀st Q,(e st).wp Q->bN P cfg C b st Q)/\qI P cfg C L b
 | .loop b=>qI P cfg C L b
 | .scope b=>qI P cfg C L b
 | _=>True
section
variable{P:Program}{T:fm}{cfg:cL}(g:nG P T cfg){orcT:zy}(ho:Bt cfg orcT){L:cx}{C:bg}{R:Type}{Q:R->Prop}
include g ho
def JW(P:Program)(cfg:cL)(C:bg)(n:Nat)(b:Code)(st:St)(Q:AX×St->Prop):Prop:=
 ∀D m a w,dX cfg D m C st.o w->TR D m st a->∀K:Exit->Act->World->Prop,
  (∀r,Q r->r.2.ro=st.ro->∀D' m' a' w',TR D' m' r.2 a'->dw cfg C D m st.o w D' m' r.2.o w'->K (lH r.1) a' w')->Code.roundsIn (FR (wo m st.ro)) 0 P b K n a w
omit g ho in
theorem Iu{b:Code}{Q:AX×St->Prop}(h:bN P cfg C b st (qg (λs=>JW P cfg C n b s Q) Q)):JW P cfg C (n+1) b st Q:=by
 intro D m a w hi ht K hK;rw[roundsIn_succ];refine h D m a w hi ht _ λr hr hro D' m' a' w' ht' he=>?_;have fr:wo m' r.2.ro=wo m st.ro:=by rw[hro,rh ht.f0 he.a0]
 unfold qg at hr;cases hx:r.1 with
 | a=>
   rw[hx]at hr;have:=hr D' m' a' w' he.b0 ht' K λr2 hr2 hro2 D2 m2 a2 w2 ht2 he2=>hK r2 hr2 (hro2.trans hro) D2 m2 a2 w2 ht2 (he.d0 he2);rw[fr]at this;exact this
 | b id=>rw[hx]at hr;have:=hK r hr hro D' m' a' w' ht' he;rw[hx]at this;exact this
 | c=>rw[hx]at hr;have:=hK r hr hro D' m' a' w' ht' he;rw[hx]at this;exact this
omit g ho in
theorem I6{b:Code}{Q:AX×St->Prop}(h:JW P cfg C n b st Q):bN P cfg C (.loop b) st Q:=λD m a w hi ht K hK=>wpIn_loop_rounds n (h D m a w hi ht K hK)
theorem Dw:∀n {c:Code} {st:St} {K:AX×St->Tr R},qI P cfg C L c->(xz T cfg orcT L n C c st K).wp Q->(bN P cfg C c st λx=>(K x).wp Q)/\∀b,c=.loop b->JW P cfg C n b st λx=>(K x).wp Q
 | 0,c,st,K,hL,h=>h.elim
 | n+1,c,st,K,hL,h=>by
   have ih:=@Dw n;unfold xz at h;have thenm:∀{b:Code} {x:AX×St} {K:AX×St->Tr R},qI P cfg C L b->(rK (xz T cfg orcT L n C b) x K).wp Q->qg (λs=>bN P cfg C b s λx=>(K x).wp Q) (λx=>(K x).wp Q) x:=by
    grind [rK,qg]
   cases c<;>simp only[JH]at h
   case loop b=>
    have hr:JW P cfg C (n+1) b st λx=>(K x).wp Q:=by
     refine Iu ((ih (c:=b) hL h).1.a0 λx hx=>?_);grind [rK,qg]
    grind [I6]
   all_goals refine⟨?_,λb e=>by grind⟩
   case skip=>exact L8 h
   case label=>exact HT h
   case exit=>exact Mq h
   case ret=>exact Nf h
   case seq a b=>exact NW ((ih hL.1 h).1.a0 λx hx=>thenm hL.2 hx)
   case cond c a b=>
    unfold Pe at h;cases hv:fj cfg.G st.ts c with
    | none=>rw[hv]at h;exact h.elim
    | some v=>
      rw[hv]at h;have h:(CG (λc=>xz T cfg orcT L n C c st K) a b v).wp Q:=h;unfold CG at h;cases v<;>simp only at h<;>first|exact h.elim|skip
      rename_i d;refine KA hv (λe=>?_) (λe=>?_)
      . subst e;exact(ih hL.1 h).1
      . subst e;exact(ih hL.2 h).1
   case block id b=>
    unfold I5 at h;refine IZ ?_;cases hb:BB b with
    | false=>rw[hb]at h;exact(ih hL.2 h).1
    | true=>
      rw[hb,cond_true]at h;unfold Hw at h;cases he:L id with
      | none=>rw[he]at h;exact(ih hL.2 h).1
      | some e=>rw[he]at h;exact hL.1 hb e he st _ (Tr.h0 h)
   case scope b=>exact H1 (ih (c:=b) hL h).1
   case region id ops draw=>
    unfold Ge at h;obtain⟨st',hr,h⟩:=Tr.j0 h;obtain⟨st2,hs,h2⟩:=wd (lZ ho (mq ho n)) (ac6 (mq ho n)) (lZ ho (mq ho n)) hr;cases h2;refine JI g (n:=n+1) (r:=(.a,st')) ?_ h;simp_all [eZ,fN,W3,ob]
   case rangeFunc g' ps assign body=>
    unfold ah8 at h;obtain⟨x,hr,h⟩:=Tr.j0 h;obtain⟨y,hy,h2⟩:=ado (mq ho n) hr;cases h2;refine JI g (n:=n+1) (r:=x) ?_ h;simp_all [eZ,fN]
   all_goals exact h.elim
theorem wE{c:Code}{K:AX×St->Tr R}(hL:qI P cfg C L c)(h:(xz T cfg orcT L n C c st K).wp Q):bN P cfg C c st λx=>(K x).wp Q:=(Dw g ho n hL h).1
end
end Go.Ev
