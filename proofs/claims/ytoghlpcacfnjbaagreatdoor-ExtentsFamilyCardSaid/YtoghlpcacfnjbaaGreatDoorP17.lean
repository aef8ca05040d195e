import Derived.Test.YtoghlpcacfnjbaaGreatDoorP16
set_option linter.all false
set_option maxRecDepth 100000
set_option maxHeartbeats 4000000
namespace Go.Ev
open Go Go.RowKit
variable{b r id:Nat}{D:Nat->Prop}{m m':Nat->bv}{l:bv}{x x':aD}{L:List bv}{ws:List aD}
section
variable{cfg:cL}{C:bg}{st:St}
def xx:List (Nat×Nat)->Nat->Option Nat
 | [],_=>none
 | p::ps,i=>bif Nat.beq p.1 i then some p.2 else xx ps i
def To(b:Nat)(ρ:List (Nat×Nat))(i:Nat):Option Nat:=bif aS i b then some i else xx ρ i
def yw(f:AV->Option AV):List AV->Option (List AV)
 | []=>some []
 | v::vs=>ob (f v) λv'=>ob (yw f vs) λvs'=>some (v'::vs')
def kG(b:Nat)(ρ:List (Nat×Nat)):Nat->AV->Option AV
 | 0,_=>none
 | d+1,v=>match v with
   | .g id off=>ob (To b ρ id) λi=>some (.g i off)
   | .c id off len c=>ob (To b ρ id) λi=>some (.c i off len c)
   | .q id=>ob (To b ρ id) λi=>some (.q i)
   | .m id=>ob (To b ρ id) λi=>some (.m i)
   | .j f x y=>ob (yw (kG b ρ d) x) λx'=>ob (yw (kG b ρ d) y) λy'=>some (.j f x' y')
   | .k t v=>ob (kG b ρ d v) λv'=>some (.k t v')
   | .h cs=>ob (yw (kG b ρ d) cs) λcs'=>some (.h cs')
   | .e cs=>ob (yw (kG b ρ d) cs) λcs'=>some (.e cs')
   | v=>some v
def xB(f:AV->Option AV):Ts->Option Ts
 | .b0=>some .b0
 | .c0 v l r=>ob (f v) λv'=>ob (xB f l) λl'=>ob (xB f r) λr'=>some (.c0 v' l' r')
structure Fl(b:Nat)(ρ:List (Nat×Nat))(D D':Nat->Prop)(m m':Nat->bv):Prop where
 a0:∀i,D i->i<b->D' i/\m' i=m i
 mv:∀i j,xx ρ i=some j->D i->D' j/\m' j=m i
theorem QS{ρ:List (Nat×Nat)}{D':Nat->Prop}(h:Fl b ρ D D' m m'){i j:Nat}(hm:To b ρ i=some j)(hd:D i):D' j/\m' j=m i:=by
 unfold To at hm;cases hb:aS i b with
 | true=>
   rw[hb,cond_true,zAc]at hm;subst hm;exact h.a0 i hd (aU.1 hb)
 | false=>rw[hb,cond_false]at hm;exact h.mv i j hm hd
section
variable{b:Nat}{ρ:List (Nat×Nat)}{D D':Nat->Prop}{m m':Nat->bv}(h:Fl b ρ D D' m m')
include h
theorem BO{f:AV->Option AV}(hf:∀v v',f v=some v'->dh D m v->aj m' v'=aj m v/\dh D' m' v'):∀{vs vs':List AV},yw f vs=some vs'->fM D m vs->ap m' vs'=ap m vs/\fM D' m' vs'
 | [],vs',hm,_=>by cases hm;exact⟨by simp[ap],fQ⟩
 | v::vs,vs',hm,hok=>by
   simp only[yw,ag,zAc]at hm;obtain⟨v1,h1,vs1,h2,rfl⟩:=hm;obtain⟨a1,a2⟩:=ct.1 hok;obtain⟨b1,b2⟩:=hf v v1 h1 a1;obtain⟨c1,c2⟩:=BO hf h2 a2;exact⟨by simp[ap,b1,c1],ct.2 ⟨b2,c2⟩⟩
theorem tG:∀{d:Nat} {v v':AV},kG b ρ d v=some v'->dh D m v->aj m' v'=aj m v/\dh D' m' v'
 | 0,v,v',hm,_=>by cases hm
 | d+1,v,v',hm,hok=>by
   have ih:∀{vs vs':List AV},yw (kG b ρ d) vs=some vs'->fM D m vs->ap m' vs'=ap m vs/\fM D' m' vs':=λh1 h2=>BO h (λv v' h1 h2=>tG h1 h2) h1 h2;have one:∀{id j n:Nat},To b ρ id=some j->(D id/\n<=(m id).c0)->m' j=m id/\(D' j/\n<=(m' j).c0):=λh1 h2=>by
    obtain⟨x,y⟩:=QS h h1 h2.1;exact⟨y,x,by rw[y];exact h2.2⟩
   unfold kG at hm;cases v<;>simp only[ag,zAc]at hm
   case g id off=>
    obtain⟨j,hj,rfl⟩:=hm;obtain⟨e,hd⟩:=one hj (hok (id,0) (by simp[aC]));exact⟨by simp[aj,e],λi hi=>by simp only[aC,zAe]at hi;subst hi;exact hd⟩
   case c id off len c=>
    obtain⟨j,hj,rfl⟩:=hm;obtain⟨e,hd⟩:=one hj (hok (id,fi len c) (by simp[aC]));exact⟨by simp[aj,e],λi hi=>by simp only[aC,zAe]at hi;subst hi;exact hd⟩
   case q id=>
    obtain⟨j,hj,rfl⟩:=hm;obtain⟨e,hd⟩:=one hj (hok (id,0) (by simp[aC]));exact⟨by simp[aj,e],λi hi=>by simp only[aC,zAe]at hi;subst hi;exact hd⟩
   case m id=>
    obtain⟨j,hj,rfl⟩:=hm;obtain⟨e,hd⟩:=one hj (hok (id,0) (by simp[aC]));exact⟨by simp[aj,e],λi hi=>by simp only[aC,zAe]at hi;subst hi;exact hd⟩
   case j f x y=>
    obtain⟨x',hx,y',hy,rfl⟩:=hm;obtain⟨a1,a2⟩:=ih hx (λi hi=>hok i (by simp[aC,hi]));obtain⟨b1,b2⟩:=ih hy (λi hi=>hok i (by simp[aC,hi]));refine⟨by simp[aj,a1,b1],λi hi=>?_⟩;simp only[aC,List.mem_append]at hi;exact hi.elim (a2 i) (b2 i)
   case k t u=>
    obtain⟨u',hu,rfl⟩:=hm;obtain⟨a1,a2⟩:=tG hu (λi hi=>hok i (by simpa [aC]using hi));exact⟨by simp[aj,a1],λi hi=>a2 i (by simpa [aC]using hi)⟩
   case h cs=>
    obtain⟨x',hx,rfl⟩:=hm;obtain⟨a1,a2⟩:=ih hx (iL.1 hok);exact⟨by simp[aj,a1],iL.2 a2⟩
   case e cs=>
    obtain⟨x',hx,rfl⟩:=hm;obtain⟨a1,a2⟩:=ih hx (gh.1 hok);exact⟨by simp[aj,a1],gh.2 a2⟩
   all_goals subst hm;exact⟨by simp[aj],bM (by simp[aC])⟩
theorem Ru{d:Nat}{vs vs':List AV}(h1:yw (kG b ρ d) vs=some vs')(h2:fM D m vs):ap m' vs'=ap m vs/\fM D' m' vs':=BO h (λv v' h1 h2=>tG h h1 h2) h1 h2
end
theorem wx{f:AV->Option AV}(hu:f bt=some bt):∀{t t':Ts} (i:Nat),xB f t=some t'->f (t.a0 i)=some (t'.a0 i)
 | .b0,t',i,h=>by cases h;rw[Ts.f0];exact hu
 | .c0 v l r,t',i,h=>by
   simp only[xB,ag,zAc]at h;obtain⟨v',hv,l',hl,r',hr,rfl⟩:=h;by_cases h0:i=0
   . subst h0;exact hv
   . rcases Nat.mod_two_eq_zero_or_one i with h2|h2
     . rw[Ts.e0 _ i h0 h2,Ts.e0 _ i h0 h2];exact wx hu _ hr
     . rw[Ts.g0 _ i h0 h2,Ts.g0 _ i h0 h2];exact wx hu _ hl
def cR(b:Nat)(x:aD):Prop:=yu x/\∀i∈HL x,i.1<b
def WD(b:Nat)(ρ:List (Nat×Nat))(x x':aD):Prop:=(x'=x/\cR b x)\/∃cs cs' rw g,x=.a cs rw g/\yw (kG b ρ 20) cs=some cs'/\x'=.a cs' rw g
theorem wv{ρ:List (Nat×Nat)}{D':Nat->Prop}(h:Fl b ρ D D' m m'){o:Option Obj}(hr:cU D m l x o)(hx:cR b x):cU D' m' l x o:=by
 have lv:∀v,dh D m v->(∀i∈aC v,i.1<b)->aj m' v=aj m v/\dh D' m' v:=λv hv hb=>by
  have hs:∀i∈aC v,D' i.1/\m' i.1=m i.1:=λi hi=>h.a0 i.1 (hv i hi).1 (hb i hi);exact⟨ja v λi hi=>(hs i hi).2,λi hi=>⟨(hs i hi).1,by rw[(hs i hi).2];exact(hv i hi).2⟩⟩
 cases x with
 | b=>trivial
 | a cs rw g=>
   obtain⟨c,e,fz,hb,hc⟩:=hr;have hv:∀v∈cs,aj m' v=aj m v/\dh D' m' v:=λv hv=>lv v (df.1 hc.b0 v hv) λi hi=>hx.2 i (ga.2 ⟨v,hv,hi⟩);exact⟨c,e,fz,hb,⟨λi v hi=>by rw[hc.c0 i v hi,(hv v (List.mem_of_getElem? hi)).1],df.2 λv hm=>(hv v hm).2,hc.a0,hc.d0⟩⟩
 | f es=>
   obtain⟨en,ck,hb,he,ho⟩:=hr;have hv:∀e∈es,(aj m' e.1=aj m e.1/\dh D' m' e.1)/\(aj m' e.2=aj m e.2/\dh D' m' e.2):=λe hm=>
    ⟨lv e.1 (ho e hm).1 λi hi=>hx.2 i (List.mem_append.2 (.inl (ga.2 ⟨e.1,List.mem_map.2 ⟨e,hm,rfl⟩,hi⟩))),lv e.2 (ho e hm).2 λi hi=>hx.2 i (List.mem_append.2 (.inr (ga.2 ⟨e.2,List.mem_map.2 ⟨e,hm,rfl⟩,hi⟩)))⟩
   exact⟨en,ck,hb,he.trans (List.map_congr_left λe hm=>by rw[(hv e hm).1.1,(hv e hm).2.1]),λe hm=>⟨(hv e hm).1.2,(hv e hm).2.2⟩⟩
 | d s p=>exact hr
 | c r=>exact absurd hx.1 (by simp[yu])
 | e=>exact hr
theorem OP{ρ:List (Nat×Nat)}{D':Nat->Prop}(h:Fl b ρ D D' m m'){o:Option Obj}(hr:cU D m l x o)(hx:WD b ρ x x'):cU D' m' l x' o:=by
 rcases hx with⟨rfl,hl⟩|⟨cs,cs',rw',g,rfl,hm,rfl⟩
 . exact wv h hr hl
 . obtain⟨c,e,fz,hb,hc⟩:=hr;obtain⟨h1,h2⟩:=Ru h hm hc.b0;refine⟨c,e,fz,hb,⟨λi v hi=>?_,h2,hc.a0,hc.d0⟩⟩;have e2:(ap m cs)[i]? = some (aj m' v):=by rw[<-h1,d_,List.getElem?_map,hi];rfl
   rw[d_,List.getElem?_map]at e2;obtain⟨u,hu,e3⟩:=Option.map_eq_some_iff.1 e2;rw[hc.c0 i u hu,e3]
theorem Lq{ρ:List (Nat×Nat)}(hx:WD b ρ x x'):oQ x'=oQ x/\Ep x'=Ep x:=by
 rcases hx with⟨rfl,_⟩|⟨cs,cs',rw',g,rfl,_,rfl⟩
 . exact⟨rfl,rfl⟩
 . exact⟨rfl,rfl⟩
def Ns(C:bg):Prop:=∀id,id<C.lo->cR C.lo (gB C.B id)
def io(lo:Nat):Nat->List Nat->List (Nat×Nat)
 | _,[]=>[]
 | j,s::ss=>(lo+s,lo+j)::io lo (j+1) ss
theorem xE{lo:Nat}:∀{ss:List Nat} {j i k:Nat},xx (io lo j ss) i=some k->∃t,t<ss.length/\i=lo+ss.getD t 0/\k=lo+(j+t)
 | [],j,i,k,h=>by cases h
 | s::ss,j,i,k,h=>by
   rw[io,xx]at h;by_cases e:lo+s=i
   . rw[gm e,cond_true,zAc]at h;exact⟨0,by simp,by simp[e],by simp[<-h]⟩
   . rw[ic e,cond_false]at h;obtain⟨t,h1,h2,h3⟩:=xE h;exact⟨t+1,by simpa using h1,by simpa using h2,by omega⟩
theorem oX(hK:qX cfg){kb:Nat}{sel:List Nat}{ts':Ts}{o':aB}(hlow:Ns C)(hkb:kb<=st.o.n)
 (hsel:∀s∈sel,kb<=s/\s<st.o.n) (hnd:sel.Nodup)
 (hle:∀p∈st.o.le,cR (C.lo+kb) p.2) (hle':o'.le=st.o.le) (hn:o'.n=kb+sel.length) (hlen:o'.os.length=o'.n)
 (hold:∀i,i<kb->o'.at i=st.o.at i/\cR (C.lo+kb) (st.o.at i))
 (hnew:∀t,t<sel.length->WD (C.lo+kb) (io C.lo kb sel) (st.o.at (sel.getD t 0)) (o'.at (kb+t)))
 (hts:xB (kG (C.lo+kb) (io C.lo kb sel) 20) st.ts=some ts') (hds:∀d∈st.ds,d<C.lo+kb) (hro:∀i,st.ro=some i->i<C.lo+kb) :
 Wk cfg C kb st λs=>s=⟨ts',st.tn,o',st.ds,st.ro⟩:=by
 intro D m a w hi ht;obtain⟨D',hD'⟩:∃D':Nat->Prop,D'=λid=>(id<C.lo+kb/\D id)\/∃t,t<sel.length/\id=C.lo+kb+t/\D (C.lo+sel.getD t 0):=⟨_,rfl⟩;obtain⟨m',hm'⟩:∃m':Nat->bv,m'=λid=>if id<C.lo+kb then m id else m (C.lo+sel.getD (id-(C.lo+kb)) 0):=⟨_,rfl⟩
 have mlow:∀i,i<C.lo+kb->m' i=m i:=λi h=>by rw[hm'];simp[h]
 have mnew:∀t,m' (C.lo+kb+t)=m (C.lo+sel.getD t 0):=λt=>by
  rw[hm'];simp only[if_neg (by omega:¬C.lo+kb+t<C.lo+kb)];rw[show C.lo+kb+t-(C.lo+kb)=t by omega]
 have ok:Fl (C.lo+kb) (io C.lo kb sel) D D' m m':=by
  refine⟨λi hd hlt=>⟨by rw[hD'];exact .inl ⟨hlt,hd⟩,mlow i hlt⟩,λi j hl hd=>?_⟩;obtain⟨t,h1,rfl,rfl⟩:=xE hl;rw[show C.lo+(kb+t)=C.lo+kb+t by omega];exact⟨by rw[hD'];exact .inr ⟨t,h1,rfl,hd⟩,mnew t⟩
 have hselt:∀t,t<sel.length->kb<=sel.getD t 0/\sel.getD t 0<st.o.n:=λt h=>hsel _ (by simp[zAd,h]);have glow:∀i,i<C.lo+kb->get C o' i=get C st.o i/\cR (C.lo+kb) (get C st.o i):=λi h=>by
  unfold get gB;by_cases hc:C.lo<=i
  . rw[bx.2 hc,cond_true,cond_true];exact hold (i-C.lo) (by omega)
  . rw[jT hc,cond_false,cond_false,hle'];refine⟨rfl,?_⟩;simp only;have lw:cR (C.lo+kb) (gB C.B i):=⟨(hlow i (by omega)).1,λj hj=>by have:=(hlow i (by omega)).2 j hj;omega⟩;cases hx:fp st.o.le i with
    | none=>exact lw
    | some x=>
      have:∀le:List (Nat×aD),fp le i=some x->∃p∈le,p.2=x:=by
       intro le;induction le with
       | nil=>intro h;cases h
       | cons p le ih=>
         intro h;rw[fp]at h;by_cases e:p.1=i
         . rw[gm e,cond_true,zAc]at h;exact⟨p,List.mem_cons_self,h⟩
         . rw[ic e,cond_false]at h;obtain⟨q,hq,e'⟩:=ih h;exact⟨q,List.mem_cons_of_mem _ hq,e'⟩
      obtain⟨p,hp,e⟩:=this _ hx;rw[<-e];exact hle p hp
 have gnew:∀t,t<sel.length->WD (C.lo+kb) (io C.lo kb sel) (get C st.o (C.lo+sel.getD t 0)) (get C o' (C.lo+kb+t)):=λt h=>by
  unfold get gB;rw[bx.2 (by omega:C.lo<=C.lo+sel.getD t 0),bx.2 (by omega:C.lo<=C.lo+kb+t),cond_true,cond_true,show C.lo+sel.getD t 0-C.lo=sel.getD t 0 by omega,show C.lo+kb+t-C.lo=kb+t by omega];exact hnew t h
 have inj:∀t u,t<sel.length->u<sel.length->sel.getD t 0=sel.getD u 0->t=u:=λt u h1 h2 e=>by
  have hp:=List.pairwise_iff_getElem.1 hnd;have e':sel[t]=sel[u]:=by simpa [List.getD_eq_getElem?_getD,h1,h2]using e
  rcases Nat.lt_trichotomy t u with h|h|h
  . exact absurd e' (hp t u h1 h2 h)
  . exact h
  . exact absurd e'.symm (hp u t h2 h1 h)
 have src:∀i,D' i->∃j,D j/\m' i=m j/\oQ (get C o' i)=oQ (get C st.o j)/\Ep (get C o' i)=Ep (get C st.o j)/\((i<C.lo+kb/\j=i)\/∃t,t<sel.length/\i=C.lo+kb+t/\j=C.lo+sel.getD t 0):=λi h=>by
  rw[hD']at h;rcases h with⟨h1,h2⟩|⟨t,h1,rfl,h2⟩
  . exact⟨i,h2,mlow i h1,by rw[(glow i h1).1],by rw[(glow i h1).1],.inl ⟨h1,rfl⟩⟩
  . have:=Lq (gnew t h1);exact⟨_,h2,mnew t,this.1,this.2,.inr ⟨t,h1,rfl,rfl⟩⟩
 have hinv:dX cfg D' m' C o' w:=by
  refine⟨λi hd=>?_,λi j hdi hdj hij hl hr=>?_,λi hd=>?_,λg hg=>?_,λi hid=>?_,λi hid=>hi.le i (by rw[hle']at hid;exact hid),hi.lo,hlen⟩
  . rw[hD']at hd;rcases hd with⟨h1,h2⟩|⟨t,h1,rfl,h2⟩
    . rw[mlow i h1,(glow i h1).1];exact wv ok (hi.a0 i h2) (glow i h1).2
    . rw[mnew t];exact OP ok (hi.a0 _ h2) (gnew t h1)
  . obtain⟨i',di,ei,li,ri,ci⟩:=src i hdi;obtain⟨j',dj,ej,lj,rj,cj⟩:=src j hdj;rw[ei,ej];refine hi.inj i' j' di dj (λe=>hij ?_) (by rw[<-li];exact hl) (by rw[<-rj];exact hr);rcases ci with⟨c1,rfl⟩|⟨t,c1,rfl,rfl⟩<;>rcases cj with⟨d1,rfl⟩|⟨u,d1,rfl,rfl⟩
    . exact e
    . have:=hselt u d1;omega
    . have:=hselt t c1;omega
    . have:=inj t u c1 d1 (by omega);omega
  . rw[hD']at hd;rcases hd with⟨h1,h2⟩|⟨t,h1,rfl,h2⟩<;>omega
  . obtain⟨a1,a2,a3⟩:=hi.c0 g hg;have hlt:g<C.lo+kb:=by have:=hK.G;have:=hi.lo;omega
    exact⟨by rw[hD'];exact .inl ⟨hlt,a1⟩,by rw[mlow g hlt];exact a2,by rw[mlow g hlt];exact a3⟩
  . obtain⟨a1,a2⟩:=hi.b0 i hid;have hlt:i<C.lo+kb:=by have:=hi.lo;omega
    exact⟨by rw[hD'];exact .inl ⟨hlt,a1⟩,by rw[(glow i hlt).1];exact a2⟩
 refine⟨_,D',m',rfl,⟨ht.b0,λt=>?_,λt=>?_,?_,λd hd=>by rw[hD'];exact .inl ⟨hds d hd,ht.e0 d hd⟩,λi h=>by rw[hD'];exact .inl ⟨hro i h,ht.f0 i h⟩⟩,rfl,?_,hinv,λD0 m0 o0 w0 ho hl he=>?_⟩
 . have:=wx (f:=kG (C.lo+kb) (io C.lo kb sel) 20) rfl t hts;rw[ht.d0 t];exact(tG ok this (ht.c0 t)).1.symm
 . have:=wx (f:=kG (C.lo+kb) (io C.lo kb sel) 20) rfl t hts;exact(tG ok this (ht.c0 t)).2
 . rw[ht.a0];exact List.map_congr_left λd hd=>by rw[mlow d (hds d hd)]
 . cases hr:st.ro with
   | none=>rfl
   | some i=>simp only[wo,Option.map_some,mlow i (hro i hr)]
 . have low0:∀i,D0 i->i<C.lo+kb:=λi h=>by have:=hl i h;omega
   refine⟨hinv,λi h=>by rw[hD'];exact .inl ⟨low0 i h,he.f0 i h⟩,λi h=>by rw[mlow i (low0 i h)];exact he.a0 i h,λi h=>?_,by simp only;omega,he.os,he.k0,he.d0,he.i0,he.h0,by simp only[hle'];exact he.m0,λi h hn=>?_⟩
   . rw[hD']at h;rcases h with⟨h1,h2⟩|⟨t,h1,rfl,h2⟩
     . exact he.l0 i h2
     . exact .inr (by omega)
   . rw[hD']at h;rcases h with⟨h1,h2⟩|⟨t,h1,rfl,h2⟩
     . rw[mlow i h1];exact he.g0 i h2 hn
     . rw[mnew t];have:=hselt t h1;exact he.g0 _ h2 λh0=>by have:=hl _ h0;omega
end
def Cw(cfg:cL)(ws:List aD):bg:=⟨[(cfg.a0.n,⟨ws.length,ws.reverse,[]⟩),(0,cfg.a0)],cfg.a0.n+ws.length⟩
structure Aq where
 a0:List Nat
 ws:List aD
 ok:Bool
def xe:fg->fg
 | .b c=>.b c
 | .a _=>.a 0
def nC(f:AV->Aq->Option (AV×Aq)):List AV->Aq->Option (List AV×Aq)
 | [],q=>some ([],q)
 | v::vs,q=>ob (f v q) λp=>ob (nC f vs p.2) λp'=>some (p.1::p'.1,p'.2)
def b_(cs:List AV)(off n:Nat):List AV:=(cs.drop off).take n
def nX(r:Nat)(C:bg)(o:aB):Nat->AV->Aq->Option (AV×Aq)
 | 0,_,_=>none
 | d+1,v,q=>match v with
   | .c id off len c=>(match q.a0 with
     | []=>none
     | sz::szs=>ob (cellsOf (get C o id)) λcs=>some (.c (r+q.ws.length) 0 len (xe c),⟨szs,q.ws++[.a (b_ cs off (len*sz)) false none],q.ok&&(Nat.ble (off+len*sz) cs.length&&bc r (b_ cs off (len*sz)))⟩))
   | .h cs=>ob (nC (nX r C o d) cs q) λp=>some (.h p.1,p.2)
   | .j f a b=>ob (nC (nX r C o d) a q) λp=>ob (nC (nX r C o d) b p.2) λp'=>some (.j f p.1 p'.1,p'.2)
   | .k t v=>ob (nX r C o d v q) λp=>some (.k t p.1,p.2)
   | .g id off=>ok (aS id r) (some (.g id off,q))
   | .e _=>none
   | .q _=>none
   | .m _=>none
   | v=>some (v,q)
def VV(b b':Nat):Nat->List (Nat×Nat)
 | 0=>[]
 | n+1=>(b+n,b'+n)::VV b b' n
abbrev kS:Type:=List AV->List aD->Option (Tr (AV×List aD))
def TT(r b:Nat)(C:bg)(o:aB)(x:AV×List aD):Tr (AV×aB):=
 aT (kG r (VV b (C.lo+o.n) x.2.length) 20 x.1) λv=>.a0 (v,⟨x.2.length+o.n,x.2++o.os,o.le⟩)
def fl(r:Nat)(szs:List Nat)(e:kS):FG:=λC args o=>
 ob (nC (nX r C o 20) args ⟨szs,[],true⟩) λq=>ob (e q.1 q.2.ws) λt=>some (fO q.2.ok (t.j0 (TT r (r+q.2.ws.length) C o)))
def bu(P:Program)(cfg:cL)(f:FuncId)(args:List AV)(ws:List aD)(v:AV)(news:List aD):Prop:=
 ∀D m w,dX cfg D m (Cw cfg ws) ⟨0,[],[]⟩ w->fM D m args->jV P f (ap m args).toArray w λV w'=>∃D' m',V=aj m' v/\dh D' m' v/\dw cfg (Cw cfg ws) D m ⟨0,[],[]⟩ w D' m' ⟨news.length,news,[]⟩ w'
def XM(P:Program)(cfg:cL)(f:FuncId)(e:kS):Prop:=∀args ws t r,e args ws=some t->t.b0=some r->bu P cfg f args ws r.1 r.2/\∀x∈r.2,cR cfg.a0.n x
theorem C7{b b':Nat}:∀{n i k:Nat},xx (VV b b' n) i=some k->∃j,j<n/\i=b+j/\k=b'+j
 | 0,i,k,h=>by cases h
 | n+1,i,k,h=>by
   rw[VV,xx]at h;by_cases e:b+n=i
   . rw[gm e,cond_true,zAc]at h;exact⟨n,by omega,e.symm,h.symm⟩
   . rw[ic e,cond_false]at h;obtain⟨j,h1,h2,h3⟩:=C7 h;exact⟨j,by omega,h2,h3⟩
section
variable{cfg:cL}{C:bg}{o:aB}{D:Nat->Prop}{m:Nat->bv}{w:World}
def mL(r:Nat)(m:Nat->bv)(L:List bv)(id:Nat):bv:=if id<r then m id else L.getD (id-r) ⟨0,0,0⟩
def DL(r:Nat)(D:Nat->Prop)(L:List bv)(id:Nat):Prop:=(id<r/\D id)\/(r<=id/\id<r+L.length)
theorem oI(h:id<r):mL r m L id=m id:=if_pos h
theorem Lv{j:Nat}(h:L[j]? = some l):mL r m L (r+j)=l:=by
 unfold mL;rw[if_neg (by omega),show r+j-r=j by omega,zAd,h];rfl
def JU(r:Nat)(D:Nat->Prop)(m:Nat->bv)(w:World)(x:aD)(l:bv):Prop:=
 ∃win,x=.a win false none/\bc r win/\fM D m win/\∃c e fz,w.heap[l.a0]? = some (.cells c e fz)/\∀i v,win[i]? = some v->c[l.b0+i]? = some (aj m v)
def M0(r:Nat)(D:Nat->Prop)(m:Nat->bv)(w:World)(L:List bv)(ws:List aD):Prop:=L.length=ws.length/\∀(j:Nat) (x:aD) (l:bv),ws[j]? = some x->L[j]? = some l->JU r D m w x l
theorem M0.a0(h:M0 r D m w L ws)(hx:JU r D m w x l):M0 r D m w (L++[l]) (ws++[x]):=by
 refine⟨by simp[h.1],λj y k hy hk=>?_⟩;by_cases e:j<ws.length
 . rw[List.getElem?_append_left e]at hy;rw[List.getElem?_append_left (by rw[h.1];exact e)]at hk;exact h.2 j y k hy hk
 . rw[List.getElem?_append_right (by omega)]at hy;rw[List.getElem?_append_right (by rw[h.1];omega)]at hk;have hj:j-ws.length=0:=by
    grind
   rw[hj]at hy;rw[show j-L.length=0 by rw[h.1];exact hj]at hk;simp only[List.getElem?_cons_zero,zAc]at hy hk;rw[<-hy,<-hk];exact hx
def Jw(r:Nat)(D:Nat->Prop)(m:Nat->bv)(w:World)(L:List bv)(q q':Aq)(S:List bv->Prop):Prop:=
 ∃L',q.ok/\M0 r D m w (L++L') q'.ws/\∀L'',S ((L++L')++L'')
section
variable(hi:dX cfg D m C o w)
include hi
theorem Bo{d:Nat}(ih:∀{v q v' q'},nX cfg.a0.n C o d v q=some (v',q')->dh D m v->q'.ok->∀L,M0 cfg.a0.n D m w L q.ws->Jw cfg.a0.n D m w L q q' λK=>aj (mL cfg.a0.n m K) v'=aj m v/\dh (DL cfg.a0.n D K) (mL cfg.a0.n m K) v') :
 ∀{vs:List AV} {q:Aq} {vs':List AV} {q':Aq},nC (nX cfg.a0.n C o d) vs q=some (vs',q')->fM D m vs->q'.ok->∀L,M0 cfg.a0.n D m w L q.ws->Jw cfg.a0.n D m w L q q' λK=>ap (mL cfg.a0.n m K) vs'=ap m vs/\fM (DL cfg.a0.n D K) (mL cfg.a0.n m K) vs'
 | [],q,vs',q',h,_,hq,L,hL=>by
   cases h;exact⟨[],hq,by simpa using hL,λL''=>⟨by simp[ap],fQ⟩⟩
 | v::vs,q,vs',q',h,hok,hq,L,hL=>by
   simp only[nC,ag,zAc,Prod.mk.injEq]at h;obtain⟨⟨v1,q1⟩,h1,⟨vs1,q2⟩,h2,rfl,rfl⟩:=h;obtain⟨a1,a2⟩:=ct.1 hok;have hq1:q1.ok=true:=by
    have mono:∀{d:Nat} {v:AV} {q:Aq} {r:AV×Aq},nX cfg.a0.n C o d v q=some r->r.2.ok->q.ok=true:=by
     intro d;induction d with
     | zero=>intro v q r h;cases h
     | succ d ihd=>
       have hl:∀{vs:List AV} {q:Aq} {r:List AV×Aq},nC (nX cfg.a0.n C o d) vs q=some r->r.2.ok->q.ok=true:=by
        intro vs;induction vs with
        | nil=>intro q r h hr;cases h;exact hr
        | cons v vs ihv=>
          intro q r h hr;simp only[nC,ag,zAc]at h;obtain⟨p,hp,p',hp',rfl⟩:=h;exact ihd hp (ihv hp' hr)
       intro v q r h hr;unfold nX at h;cases v<;>simp only[ag,aA,zAc,reduceCtorEq]at h
       case c id off len c=>
        split at h
        . cases h
        . simp only[ag,zAc]at h;obtain⟨cs,_,rfl⟩:=h;simp only[zAa]at hr;exact hr.1
       case h cs=>obtain⟨p,hp,rfl⟩:=h;exact hl hp hr
       case j f a b=>obtain⟨p,hp,p',hp',rfl⟩:=h;exact hl hp (hl hp' hr)
       case k t v=>obtain⟨p,hp,rfl⟩:=h;exact ihd hp hr
       case g=>obtain⟨_,rfl⟩:=h;exact hr
       all_goals (subst h;exact hr)
    have monoL:∀{vs:List AV} {q:Aq} {r:List AV×Aq},nC (nX cfg.a0.n C o d) vs q=some r->r.2.ok->q.ok=true:=by
     intro vs;induction vs with
     | nil=>intro q r h hr;cases h;exact hr
     | cons v vs ihv=>
       intro q r h hr;simp only[nC,ag,zAc]at h;obtain⟨p,hp,p',hp',rfl⟩:=h;exact mono hp (ihv hp' hr)
    exact monoL h2 hq
   obtain⟨L1,b1,b2,b3⟩:=ih h1 a1 hq1 L hL;obtain⟨L2,c1,c2,c3⟩:=Bo ih h2 a2 hq _ b2;refine⟨L1++L2,b1,by rw[<-List.append_assoc];exact c2,λL''=>?_⟩;have x:=b3 (L2++L'');have y:=c3 L'';rw[show L++L1++(L2++L'')=L++(L1++L2)++L'' by simp]at x;rw[show L++L1++L2++L''=L++(L1++L2)++L'' by simp]at y;exact⟨by simp only[ap];rw[x.1,y.1],ct.2 ⟨x.2,y.2⟩⟩
theorem BW:∀{d:Nat} {v:AV} {q:Aq} {v':AV} {q':Aq},nX cfg.a0.n C o d v q=some (v',q')->dh D m v->q'.ok->∀L,M0 cfg.a0.n D m w L q.ws->Jw cfg.a0.n D m w L q q' λK=>aj (mL cfg.a0.n m K) v'=aj m v/\dh (DL cfg.a0.n D K) (mL cfg.a0.n m K) v'
 | 0,v,q,v',q',h,_,_,L,hL=>by cases h
 | d+1,v,q,v',q',h,hok,hq,L,hL=>by
   have ihL:=@Bo cfg C o D m w hi d (λ{v q v' q'}=>BW (d:=d) (v:=v) (q:=q) (v':=v') (q':=q'));unfold nX at h;cases v<;>simp only[ag,aA,zAc,reduceCtorEq,Prod.mk.injEq]at h
   case c id off len c=>
    split at h
    . cases h
    . rename_i sz szs hsz;simp only[ag,zAc,Prod.mk.injEq]at h;obtain⟨cs,hcs,rfl,rfl⟩:=h;simp only[zAa,bx]at hq;obtain⟨hq1,hle,hbl⟩:=hq;obtain⟨hD,hcap⟩:=hok (id,fi len c) (by simp[aC]);have hobj:=hi.a0 id hD;obtain⟨rw',g,hg⟩:∃rw' g,get C o id=.a cs rw' g:=by
       unfold cellsOf at hcs;split at hcs
       . grind
       . cases hcs
      rw[hg]at hobj;obtain⟨cc,e,fz,hb,hc⟩:=hobj;have win_at:∀i v,(b_ cs off (len*sz))[i]? = some v->cs[off+i]? = some v:=λi v hv=>by
       unfold b_ at hv;rw[List.getElem?_take]at hv;split at hv
       . grind
       . cases hv
      let l:bv:=⟨(m id).a0,(m id).b0+off,match c with|.b _=>0|.a k=>(m id).c0-k⟩
      have hW:JU cfg.a0.n D m w (.a (b_ cs off (len*sz)) false none) l:=
       ⟨_,rfl,hbl,df.2 λv hv=>by
        obtain⟨i,hi'⟩:=List.getElem?_of_mem hv;exact df.1 hc.b0 v (List.mem_of_getElem? (win_at i v hi')),cc,e,fz,hb,λi v hv=>by
        have:=hc.c0 _ v (win_at i v hv);rw[show l.b0+i=(m id).b0+(off+i)by simp only[l];omega];exact this⟩
      refine⟨[l],hq1,hL.a0 hW,λL''=>?_⟩;have hj:((L++[l])++L'')[q.ws.length]? = some l:=by
       rw[List.append_assoc,List.getElem?_append_right (Nat.le_of_eq hL.1),hL.1];simp
      refine⟨?_,λi hi'=>?_⟩
      . simp only[aj,Lv hj];cases c with
        | b n=>simp[xe,iR,l]
        | a k=>simp[xe,iR,l]
      . simp only[aC,zAe]at hi';subst hi';refine⟨.inr ⟨by simp only;omega,by simp only[zAg,hL.1,zAf,List.length_nil];omega⟩,?_⟩;simp only[Lv hj];cases c with
        | b n=>simp[xe,fi]
        | a k=>simp only[xe,fi,l];simp only[fi]at hcap;omega
   case h cs=>
    obtain⟨⟨vs',q1⟩,h1,rfl,rfl⟩:=h;obtain⟨L',x1,x2,x3⟩:=ihL h1 (iL.1 hok) hq L hL;exact⟨L',x1,x2,λL''=>⟨by simp only[aj];rw[(x3 L'').1],iL.2 (x3 L'').2⟩⟩
   case j f a b=>
    obtain⟨⟨a',q1⟩,h1,⟨b',q2⟩,h2,rfl,rfl⟩:=h;have hcat:nC (nX cfg.a0.n C o d) (a++b) q=some (a'++b',q2):=by
     have:∀{xs:List AV} {q q1 q2:Aq} {xs':List AV},nC (nX cfg.a0.n C o d) xs q=some (xs',q1)->nC (nX cfg.a0.n C o d) b q1=some (b',q2)->nC (nX cfg.a0.n C o d) (xs++b) q=some (xs'++b',q2):=by
      intro xs;induction xs with
      | nil=>intro q q1 q2 xs' h1 h2;cases h1;exact h2
      | cons x xs ih=>
        intro q q1 q2 xs' h1 h2;simp only[nC,ag,zAc,Prod.mk.injEq]at h1;obtain⟨p,hp,⟨ys,q3⟩,hp',rfl,rfl⟩:=h1;simp only[List.cons_append,nC,hp,ob,ih hp' h2]
     exact this h1 h2
    obtain⟨L',x1,x2,x3⟩:=ihL hcat (ex.2 ⟨λi hi'=>hok i (by simp[aC,hi']),λi hi'=>hok i (by simp[aC,hi'])⟩) hq L hL;refine⟨L',x1,x2,λL''=>?_⟩;obtain⟨y1,y2⟩:=x3 L'';have hlen:a'.length=a.length:=by
     have:∀{xs:List AV} {q:Aq} {r:List AV×Aq},nC (nX cfg.a0.n C o d) xs q=some r->r.1.length=xs.length:=by
      intro xs;induction xs with
      | nil=>intro q r h;cases h;rfl
      | cons x xs ih=>
        intro q r h;simp only[nC,ag,zAc]at h;obtain⟨p,_,p',hp',rfl⟩:=h;simp[ih hp']
     exact this h1
    rw[mF,mF]at y1;obtain⟨z1,z2⟩:=List.append_inj y1 (by rw[b7,b7,hlen]);obtain⟨u1,u2⟩:=ex.1 y2;refine⟨by simp only[aj];rw[z1,z2],λi hi'=>?_⟩;simp only[aC,List.mem_append]at hi';exact hi'.elim (u1 i) (u2 i)
   case k t u=>
    obtain⟨⟨u',q1⟩,h1,rfl,rfl⟩:=h;obtain⟨L',x1,x2,x3⟩:=BW h1 (λi hi'=>hok i (by simpa [aC]using hi')) hq L hL;exact⟨L',x1,x2,λL''=>⟨by simp only[aj];rw[(x3 L'').1],λi hi'=>(x3 L'').2 i (by simpa [aC]using hi')⟩⟩
   case g id off=>
    obtain⟨h1,rfl,rfl⟩:=h;rw[aU]at h1;refine⟨[],hq,by simpa using hL,λL''=>⟨by simp only[aj,oI h1],λi hi'=>?_⟩⟩;simp only[aC,zAe]at hi';subst hi';exact⟨.inl ⟨h1,(hok (id,0) (by simp[aC])).1⟩,by simp⟩
   all_goals
    obtain⟨rfl,rfl⟩:=h;exact⟨[],hq,by simpa using hL,λL''=>⟨by simp[aj],bM (by simp[aC])⟩⟩
end
end
section
variable{cfg:cL}(hK:qX cfg)(hRO:∀id,id<cfg.a0.n->Ep (cfg.a0.at id)=false)
theorem oR{o1:aB}(hle:o1.le=[]):(id<cfg.a0.n->get (Cw cfg ws) o1 id=cfg.a0.at id)/\(∀j x,ws[j]? = some x->get (Cw cfg ws) o1 (cfg.a0.n+j)=x)/\(∀j,get (Cw cfg ws) o1 (cfg.a0.n+ws.length+j)=o1.at j):=by
 refine⟨λh=>?_,λj x hj=>?_,λj=>?_⟩
 . rw[get,gB];simp only[Cw];rw[jT (by omega),cond_false,hle];simp only[fp,gB];rw[jT (by omega),cond_false,bx.2 (Nat.zero_le _),cond_true,Nat.sub_zero]
 . have hlt:=(List.getElem?_eq_some_iff.1 hj).1;rw[get,gB];simp only[Cw];rw[jT (by omega),cond_false,hle];simp only[fp,gB];rw[bx.2 (by omega),cond_true];unfold aB.at;simp only;rw[zAd,List.getElem?_reverse (by omega),show ws.length-1-(ws.length-1-(cfg.a0.n+j-cfg.a0.n))=j by omega,hj];rfl
 . rw[get,gB];simp only[Cw];rw[bx.2 (by omega),cond_true,show cfg.a0.n+ws.length+j-(cfg.a0.n+ws.length)=j by omega]
include hK hRO in
theorem Lk{C:bg}{o:aB}{w:World}(hi:dX cfg D m C o w)(hL:M0 cfg.a0.n D m w L ws) :
 dX cfg (DL cfg.a0.n D L) (mL cfg.a0.n m L) (Cw cfg ws) ⟨0,[],[]⟩ w:=by
 have low:∀v,dh D m v->(∀i∈aC v,i.1<cfg.a0.n)->aj (mL cfg.a0.n m L) v=aj m v/\dh (DL cfg.a0.n D L) (mL cfg.a0.n m L) v:=λv hv hb=>
  ⟨ja v λi hm=>oI (hb i hm),λi hm=>⟨.inl ⟨hb i hm,(hv i hm).1⟩,by rw[oI (hb i hm)];exact(hv i hm).2⟩⟩
 have win:∀j,j<L.length->∃x l,ws[j]? = some x/\L[j]? = some l/\JU cfg.a0.n D m w x l:=λj h=>by
  have h2:j<ws.length:=by rw[<-hL.1];exact h
  exact⟨_,_,List.getElem?_eq_getElem h2,List.getElem?_eq_getElem h,hL.2 j _ _ (List.getElem?_eq_getElem h2) (List.getElem?_eq_getElem h)⟩
 have mvok:Fl cfg.a0.n [] D (DL cfg.a0.n D L) m (mL cfg.a0.n m L):=⟨λi hd h=>⟨.inl ⟨h,hd⟩,oI h⟩,λi j h=>by cases h⟩;refine⟨λid hd=>?_,λi j hdi hdj hij hl hr=>?_,λid hd=>?_,λg hg=>?_,λid hid=>?_,λid hid=>(by cases hid),by simp only[Cw];omega,rfl⟩
 . rcases hd with⟨h1,h2⟩|⟨h1,h2⟩
   . rw[(oR rfl).1 h1,oI h1,<-(hi.b0 id h1).2];exact wv mvok (hi.a0 id h2) ⟨by rw[(hi.b0 id h1).2];exact hK.a0 id h1,λi hm=>by rw[(hi.b0 id h1).2]at hm;exact hK.b0 id h1 i hm⟩
   . obtain⟨j,rfl⟩:∃j,id=cfg.a0.n+j:=⟨id-cfg.a0.n,by omega⟩;obtain⟨x,l,hx,hl,cs,rfl,hbl,hok,c,e,fz,hb,hat⟩:=win j (by omega);rw[(oR (cfg:=cfg) (id:=0) rfl).2.1 j _ hx,Lv hl];have hlow:∀v∈cs,aj (mL cfg.a0.n m L) v=aj m v/\dh (DL cfg.a0.n D L) (mL cfg.a0.n m L) v:=λv hv=>low v (df.1 hok v hv) λi hm=>tV hbl i (ga.2 ⟨v,hv,hm⟩);exact⟨c,e,fz,hb,⟨λi v hv=>by rw[hat i v hv,(hlow v (List.mem_of_getElem? hv)).1],df.2 λv hv=>(hlow v hv).2,λh=>(by cases h),λs h=>(by cases h)⟩⟩
 . exfalso;rcases hdj with⟨h1,h2⟩|⟨h1,h2⟩
   . rw[(oR rfl).1 h1,hRO j h1]at hr;cases hr
   . obtain⟨k,rfl⟩:∃k,j=cfg.a0.n+k:=⟨j-cfg.a0.n,by omega⟩;obtain⟨x,l,hx,hl',cs,rfl,_⟩:=win k (by omega);rw[(oR (cfg:=cfg) (id:=0) rfl).2.1 k _ hx]at hr;cases hr
 . rcases hd with⟨h1,h2⟩|⟨h1,h2⟩
   . simp only[Cw];omega
   . have:=hL.1;simp only[Cw];omega
 . obtain⟨a1,a2,a3⟩:=hi.c0 g hg;have:=hK.G;exact⟨.inl ⟨by omega,a1⟩,by rw[oI (by omega)];exact a2,by rw[oI (by omega)];exact a3⟩
 . exact⟨.inl ⟨hid,(hi.b0 id hid).1⟩,(oR rfl).1 hid⟩
theorem fW{P:Program}{f:FuncId}{szs:List Nat}{e:kS}(hK:qX cfg)(hRO:∀id,id<cfg.a0.n->Ep (cfg.a0.at id)=false)(h:XM P cfg f e):tD P cfg f (fl cfg.a0.n szs e):=by
 intro C args o t r ht hr;unfold fl at ht;rw[ag]at ht;obtain⟨⟨args',q⟩,hcan,ht⟩:=ht;simp only[ag,zAc]at ht;obtain⟨t0,he,rfl⟩:=ht;obtain⟨hq,hr⟩:=bG hr;obtain⟨⟨v,news⟩,hv,hr⟩:=Tr.g0 hr;obtain⟨hfact,hlow⟩:=h args' q.ws t0 (v,news) he hv;unfold TT at hr;obtain⟨v',hmv,hr⟩:=ar hr;cases hr;simp only at hmv hfact hlow ⊢;refine⟨λD m w hi hok=>?_,λhl=>?_⟩
 . have hW0:M0 cfg.a0.n D m w [] []:=⟨rfl,λj x l hj=>by simp at hj⟩;obtain⟨L',_,hL,hS⟩:=Bo hi (d:=20) (λ{v q v' q'}=>BW hi) hcan hok hq [] hW0;have hS:=hS [];simp only[List.nil_append,List.append_nil]at hL hS;obtain⟨hc,hok'⟩:=hS;rw[<-hc];refine(hfact _ _ w (Lk hK hRO hi hL) hok').a0 ?_;rintro V w' ⟨D',m',rfl,hv',hx⟩;have hlo:=hi.lo;have hframe:∀k,k<w.heap.size->w'.heap[k]? = w.heap[k]? := λk hk=>hx.h0 k hk λi hd ho=>by
    exfalso;have hlt:i<cfg.a0.n+q.ws.length:=by
     rcases hd with⟨h1,_⟩|⟨_,h2⟩
     . omega
     . rw[<-hL.1];exact h2
    unfold dQ at ho;rw[jT (by simp only[Cw];omega),cond_false]at ho;simp[fp]at ho
   have hfresh:∀i,D' i->¬DL cfg.a0.n D L' i->w.heap.size<=(m' i).a0:=λi hd hn=>(hx.g0 i hd hn).resolve_right λ⟨j,hj,ho,_⟩=>by
    have hlt:j<cfg.a0.n+q.ws.length:=by
     rcases hj with⟨h1,_⟩|⟨_,h2⟩
     . omega
     . rw[<-hL.1];exact h2
    unfold dQ at ho;rw[jT (by simp only[Cw];omega),cond_false]at ho;simp[fp]at ho
   obtain⟨D2,hD2⟩:∃D2:Nat->Prop,D2=λid=>D id\/∃j,j<news.length/\id=C.lo+o.n+j/\D' (cfg.a0.n+q.ws.length+j):=⟨_,rfl⟩;obtain⟨m2,hm2⟩:∃m2:Nat->bv,m2=λid=>if id<C.lo+o.n then m id else m' (cfg.a0.n+q.ws.length+(id-(C.lo+o.n))):=⟨_,rfl⟩
   have m2low:∀i,i<C.lo+o.n->m2 i=m i:=λi h=>by rw[hm2];simp[h]
   have m2new:∀j,m2 (C.lo+o.n+j)=m' (cfg.a0.n+q.ws.length+j):=λj=>by
    rw[hm2];simp only[if_neg (by omega:¬C.lo+o.n+j<C.lo+o.n)];rw[show C.lo+o.n+j-(C.lo+o.n)=j by omega]
   have hd'low:∀i,D' i->i<cfg.a0.n->D i/\m' i=m i:=λi hd h=>by
    rcases hx.l0 i hd with h1|h1
    . have:=hx.a0 i h1;rcases h1 with⟨_,h2⟩|⟨h2,_⟩
      . exact⟨h2,by rw[this,oI h]⟩
      . omega
    . simp only[Cw]at h1;omega
   have mvok:Fl cfg.a0.n (VV (cfg.a0.n+q.ws.length) (C.lo+o.n) news.length) D' D2 m' m2:=by
    refine⟨λi hd h=>?_,λi j hl hd=>?_⟩
    . obtain⟨a,b⟩:=hd'low i hd h;exact⟨by rw[hD2];exact .inl a,by rw[m2low i (by omega),b]⟩
    . obtain⟨t,h1,rfl,rfl⟩:=C7 hl;exact⟨by rw[hD2];exact .inr ⟨t,h1,rfl,hd⟩,m2new t⟩
   obtain⟨hcv,hokv⟩:=tG mvok hmv hv';have hnl:news.length=(⟨news.length,news,[]⟩:aB).n:=rfl;have gold:∀i,i<C.lo+o.n->get C ⟨news.length+o.n,news++o.os,o.le⟩ i=get C o i:=λi h=>ta (o1:=⟨news.length,news,[]⟩) (o:=o) rfl h;have gnew:∀j,j<news.length->get C ⟨news.length+o.n,news++o.os,o.le⟩ (C.lo+o.n+j)=(⟨news.length,news,[]⟩:aB).at j:=λj h=>by
    have:=AE (C:=C) (o1:=⟨news.length,news,[]⟩) (o:=o) (i:=C.lo+o.n+j) rfl (by omega) (by simp only;omega);rw[show C.lo+o.n+j-(C.lo+o.n)=j by omega]at this;exact this
   have hold:∀i,D i->i<C.lo+o.n:=hi.lt;have hnew_low:∀j,j<news.length->cR cfg.a0.n ((⟨news.length,news,[]⟩:aB).at j):=λj h=>by
    unfold aB.at;simp only;rw[zAd,List.getElem?_eq_getElem (by omega)];exact hlow _ (List.getElem_mem _)
   have hinv:dX cfg D2 m2 C ⟨news.length+o.n,news++o.os,o.le⟩ w':=by
    have hi':dX cfg D m C o w':=hi.d0 λj hj hlv=>hframe _ ((hi.a0 j hj).a0 hlv);refine⟨λid hd=>?_,λi j hdi hdj hij hl hr=>?_,λid hd=>?_,λg hg=>?_,λid hid=>?_,λid hid=>hi.le id hid,hi.lo,by simp[hi.e0]⟩
    . rw[hD2]at hd;rcases hd with hd|⟨j,hj,rfl,hd⟩
      . rw[gold id (hold id hd),m2low id (hold id hd)];exact(hi'.a0 id hd).b0 (λi h=>by rw[hD2];exact .inl h) λi h=>m2low i (hold i h)
      . rw[gnew j hj,m2new];have:=hx.b0.a0 _ hd;rw[(oR (cfg:=cfg) (id:=0) rfl).2.2 j]at this;exact wv mvok this (hnew_low j hj)
    . rw[hD2]at hdi hdj;have isnew:∀j,j<news.length->D' (cfg.a0.n+q.ws.length+j)->w.heap.size<=(m' (cfg.a0.n+q.ws.length+j)).a0:=λj hj hd=>hfresh _ hd λh=>by
       rcases h with⟨h1,_⟩|⟨_,h2⟩
       . omega
       . rw[hL.1]at h2;omega
      rcases hdi with hdi|⟨a,ha,rfl,hdi⟩<;>rcases hdj with hdj|⟨b,hb,rfl,hdj⟩
      . rw[gold i (hold i hdi)]at hl;rw[gold j (hold j hdj)]at hr;rw[m2low i (hold i hdi),m2low j (hold j hdj)];exact hi.inj i j hdi hdj hij hl hr
      . rw[gold i (hold i hdi)]at hl;rw[m2low i (hold i hdi),m2new];have h1:=(hi.a0 i hdi).a0 hl;have h2:=isnew b hb hdj;omega
      . rw[gold j (hold j hdj)]at hr;rw[m2low j (hold j hdj),m2new];have h1:=(hi.a0 j hdj).a0 (mY hr);have h2:=isnew a ha hdi;omega
      . rw[gnew a ha]at hl;rw[gnew b hb]at hr;rw[m2new,m2new];refine hx.b0.inj _ _ hdi hdj (by omega) ?_ ?_
        . rw[(oR (cfg:=cfg) (id:=0) rfl).2.2 a];exact hl
        . rw[(oR (cfg:=cfg) (id:=0) rfl).2.2 b];exact hr
    . rw[hD2]at hd;rcases hd with hd|⟨j,hj,rfl,_⟩
      . have:=hold id hd;simp only;omega
      . simp only;omega
    . obtain⟨a1,a2,a3⟩:=hi.c0 g hg;exact⟨by rw[hD2];exact .inl a1,by rw[m2low g (hold g a1)];exact a2,by rw[m2low g (hold g a1)];exact a3⟩
    . obtain⟨a1,a2⟩:=hi.b0 id hid;exact⟨by rw[hD2];exact .inl a1,by rw[gold id (hold id a1)];exact a2⟩
   have hfr2:∀i,D2 i->¬D i->w.heap.size<=(m2 i).a0:=λi h hn=>by
    rw[hD2]at h;rcases h with h|⟨j,hj,rfl,hd⟩
    . exact absurd h hn
    . rw[m2new];refine hfresh _ hd λh=>?_;rcases h with⟨h1,_⟩|⟨_,h2⟩
      . omega
      . rw[hL.1]at h2;omega
   refine⟨D2,m2,hcv.symm,hokv,⟨hinv,λi h=>by rw[hD2];exact .inl h,λi h=>m2low i (hold i h),λi h=>?_,by simp only;omega,hx.os,hx.k0,hx.d0,hx.i0,λk hk _=>hframe k hk,rfl,λi h hn=>.inl (hfr2 i h hn)⟩,λ_=>⟨hframe,hfr2⟩⟩;rw[hD2]at h;rcases h with h|⟨j,hj,rfl,_⟩
   . exact .inl h
   . exact .inr (by omega)
 . exact fh.g0 (o1:=⟨news.length,news,[]⟩) hl rfl
end
section
variable{P:Program}{T:fm}{cfg:cL}(g:xS P T cfg){S:aQ}(hS:ak P cfg S)
include g hS
theorem xS.c0{f:FuncId}{fn:Func}{c:Code}(hb:bj T f=some (fn,c)){args:List AV}(hlen:args.length<=1000){v:AV}{news:List aD}
 (h:bN P (cH cfg S) (Cw cfg ws) c (jS fn args ⟨0,[],[]⟩) λx=>∃r,wj T (Cw cfg ws) fn x=some r/\Wk cfg (Cw cfg ws) 0 ⟨.c0 r.1 .b0 .b0,1,r.2,[],none⟩ λs=>s.o=⟨news.length,news,[]⟩/\s.ts.a0 0=v):bu P cfg f args ws v news:=by
 intro D m w hi hok;have hi':dX (cH cfg S) D m (Cw cfg ws) ⟨0,[],[]⟩ w:=dX.to (cfg:=cfg) (cfg':=cH cfg S) rfl rfl hi;refine .inl (HX g.f0 hb hlen h hi' hok λr D' m' w' hr hv he=>?_);have he':dw cfg (Cw cfg ws) D m ⟨0,[],[]⟩ w D' m' r.2 w':=dw.to (cfg:=cH cfg S) (cfg':=cfg) rfl rfl he;have ht:TR D' m' ⟨.c0 r.1 .b0 .b0,1,r.2,[],none⟩ ⟨#[aj m' r.1],[]⟩:=by
  refine⟨rfl,λt=>?_,λt=>?_,rfl,λd hd=>(by cases hd),λi hi=>(by cases hi)⟩
  . by_cases e:t=0
    . subst e;rfl
    . have h1:(Ts.c0 r.1 .b0 .b0).a0 t=bt:=by
       rcases Nat.mod_two_eq_zero_or_one t with h2|h2
       . rw[Ts.e0 _ t e h2];exact Ts.f0 _
       . rw[Ts.g0 _ t e h2];exact Ts.f0 _
      rw[h1,iX];simp[Array.getD,e]
  . by_cases e:t=0
    . subst e;exact hv
    . have h1:(Ts.c0 r.1 .b0 .b0).a0 t=bt:=by
       rcases Nat.mod_two_eq_zero_or_one t with h2|h2
       . rw[Ts.e0 _ t e h2];exact Ts.f0 _
       . rw[Ts.g0 _ t e h2];exact Ts.f0 _
      rw[h1];exact iy
 obtain⟨s,D2,m2,⟨ho,hvs⟩,h1,_,_,h4,h5⟩:=hr D' m' _ w' he'.b0 ht;have hat:=h1.d0 0;have hok0:=h1.c0 0;rw[hvs]at hat hok0;refine⟨D2,m2,by rw[<-hat];rfl,hok0,?_⟩;have:=h5 D m ⟨0,[],[]⟩ w (Nat.le_refl _) hi.lt he';rw[ho]at this;exact this
end
end Go.Ev
