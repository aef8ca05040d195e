import Derived.Test.YtoghlpcacfnjbaaGreatDoorP16
set_option linter.all false
set_option maxRecDepth 100000
set_option maxHeartbeats 4000000
namespace Go.Ev
open Go Go.RowKit
variable{b r id:Nat}{D:Nat->Prop}{m m':Nat->bq}{l:bq}{x x':aE}{L:List bq}{ws:List aE}
section
variable{cfg:cG}{C:bg}{st:St}
def xH:List (Nat×Nat)->Nat->Option Nat
 | [],_=>none
 | p::ps,i=>bif Nat.beq p.1 i then some p.2 else xH ps i
def Q8(b:Nat)(ρ:List (Nat×Nat))(i:Nat):Option Nat:=bif aW i b then some i else xH ρ i
def xE(f:AV->Option AV):List AV->Option (List AV)
 | []=>some []
 | v::vs=>ob (f v) λv'=>ob (xE f vs) λvs'=>some (v'::vs')
def kr(b:Nat)(ρ:List (Nat×Nat)):Nat->AV->Option AV
 | 0,_=>none
 | d+1,v=>match v with
   | .ptr id off=>ob (Q8 b ρ id) λi=>some (.ptr i off)
   | .slice id off len c=>ob (Q8 b ρ id) λi=>some (.slice i off len c)
   | .map id=>ob (Q8 b ρ id) λi=>some (.map i)
   | .yield id=>ob (Q8 b ρ id) λi=>some (.yield i)
   | .func f x y=>ob (xE (kr b ρ d) x) λx'=>ob (xE (kr b ρ d) y) λy'=>some (.func f x' y')
   | .iface t v=>ob (kr b ρ d v) λv'=>some (.iface t v')
   | .agg cs=>ob (xE (kr b ρ d) cs) λcs'=>some (.agg cs')
   | .tuple cs=>ob (xE (kr b ρ d) cs) λcs'=>some (.tuple cs')
   | v=>some v
def wy(f:AV->Option AV):Ts->Option Ts
 | .nil=>some .nil
 | .node v l r=>ob (f v) λv'=>ob (wy f l) λl'=>ob (wy f r) λr'=>some (.node v' l' r')
structure EA(b:Nat)(ρ:List (Nat×Nat))(D D':Nat->Prop)(m m':Nat->bq):Prop where
 low:∀i,D i->i<b->D' i/\m' i=m i
 mv:∀i j,xH ρ i=some j->D i->D' j/\m' j=m i
theorem RP{ρ:List (Nat×Nat)}{D':Nat->Prop}(h:EA b ρ D D' m m'){i j:Nat}(hm:Q8 b ρ i=some j)(hd:D i):D' j/\m' j=m i:=by
 unfold Q8 at hm;cases hb:aW i b with
 | true=>
   rw[hb,cond_true,zAc]at hm;subst hm;exact h.low i hd (aS.1 hb)
 | false=>rw[hb,cond_false]at hm;exact h.mv i j hm hd
section
variable{b:Nat}{ρ:List (Nat×Nat)}{D D':Nat->Prop}{m m':Nat->bq}(h:EA b ρ D D' m m')
include h
theorem Bt{f:AV->Option AV}(hf:∀v v',f v=some v'->db D m v->aj m' v'=aj m v/\db D' m' v'):∀{vs vs':List AV},xE f vs=some vs'->fN D m vs->ap m' vs'=ap m vs/\fN D' m' vs'
 | [],vs',hm,_=>by cases hm;exact⟨by simp[ap],fH⟩
 | v::vs,vs',hm,hok=>by
   simp only[xE,ai,zAc]at hm;obtain⟨v1,h1,vs1,h2,rfl⟩:=hm;obtain⟨a1,a2⟩:=ct.1 hok;obtain⟨b1,b2⟩:=hf v v1 h1 a1;obtain⟨c1,c2⟩:=Bt hf h2 a2;exact⟨by simp[ap,b1,c1],ct.2 ⟨b2,c2⟩⟩
theorem tq:∀{d:Nat} {v v':AV},kr b ρ d v=some v'->db D m v->aj m' v'=aj m v/\db D' m' v'
 | 0,v,v',hm,_=>by cases hm
 | d+1,v,v',hm,hok=>by
   have ih:∀{vs vs':List AV},xE (kr b ρ d) vs=some vs'->fN D m vs->ap m' vs'=ap m vs/\fN D' m' vs':=λh1 h2=>Bt h (λv v' h1 h2=>tq h1 h2) h1 h2;have one:∀{id j n:Nat},Q8 b ρ id=some j->(D id/\n<=(m id).cap)->m' j=m id/\(D' j/\n<=(m' j).cap):=λh1 h2=>by
    obtain⟨x,y⟩:=RP h h1 h2.1;exact⟨y,x,by rw[y];exact h2.2⟩
   unfold kr at hm;cases v<;>simp only[ai,zAc]at hm
   case ptr id off=>
    obtain⟨j,hj,rfl⟩:=hm;obtain⟨e,hd⟩:=one hj (hok (id,0) (by simp[aD]));exact⟨by simp[aj,e],λi hi=>by simp only[aD,zAf]at hi;subst hi;exact hd⟩
   case slice id off len c=>
    obtain⟨j,hj,rfl⟩:=hm;obtain⟨e,hd⟩:=one hj (hok (id,fj len c) (by simp[aD]));exact⟨by simp[aj,e],λi hi=>by simp only[aD,zAf]at hi;subst hi;exact hd⟩
   case map id=>
    obtain⟨j,hj,rfl⟩:=hm;obtain⟨e,hd⟩:=one hj (hok (id,0) (by simp[aD]));exact⟨by simp[aj,e],λi hi=>by simp only[aD,zAf]at hi;subst hi;exact hd⟩
   case yield id=>
    obtain⟨j,hj,rfl⟩:=hm;obtain⟨e,hd⟩:=one hj (hok (id,0) (by simp[aD]));exact⟨by simp[aj,e],λi hi=>by simp only[aD,zAf]at hi;subst hi;exact hd⟩
   case func f x y=>
    obtain⟨x',hx,y',hy,rfl⟩:=hm;obtain⟨a1,a2⟩:=ih hx (λi hi=>hok i (by simp[aD,hi]));obtain⟨b1,b2⟩:=ih hy (λi hi=>hok i (by simp[aD,hi]));refine⟨by simp[aj,a1,b1],λi hi=>?_⟩;simp only[aD,List.mem_append]at hi;exact hi.elim (a2 i) (b2 i)
   case iface t u=>
    obtain⟨u',hu,rfl⟩:=hm;obtain⟨a1,a2⟩:=tq hu (λi hi=>hok i (by simpa [aD]using hi));exact⟨by simp[aj,a1],λi hi=>a2 i (by simpa [aD]using hi)⟩
   case agg cs=>
    obtain⟨x',hx,rfl⟩:=hm;obtain⟨a1,a2⟩:=ih hx (iJ.1 hok);exact⟨by simp[aj,a1],iJ.2 a2⟩
   case tuple cs=>
    obtain⟨x',hx,rfl⟩:=hm;obtain⟨a1,a2⟩:=ih hx (fV.1 hok);exact⟨by simp[aj,a1],fV.2 a2⟩
   all_goals subst hm;exact⟨by simp[aj],bQ (by simp[aD])⟩
theorem SN{d:Nat}{vs vs':List AV}(h1:xE (kr b ρ d) vs=some vs')(h2:fN D m vs):ap m' vs'=ap m vs/\fN D' m' vs':=Bt h (λv v' h1 h2=>tq h h1 h2) h1 h2
end
theorem vU{f:AV->Option AV}(hu:f bo=some bo):∀{t t':Ts} (i:Nat),wy f t=some t'->f (t.get i)=some (t'.get i)
 | .nil,t',i,h=>by cases h;rw[Ts.get_nil];exact hu
 | .node v l r,t',i,h=>by
   simp only[wy,ai,zAc]at h;obtain⟨v',hv,l',hl,r',hr,rfl⟩:=h;by_cases h0:i=0
   . subst h0;exact hv
   . rcases Nat.mod_two_eq_zero_or_one i with h2|h2
     . rw[Ts.get_even _ i h0 h2,Ts.get_even _ i h0 h2];exact vU hu _ hr
     . rw[Ts.get_odd _ i h0 h2,Ts.get_odd _ i h0 h2];exact vU hu _ hl
def cR(b:Nat)(x:aE):Prop:=xp x/\∀i∈Ho x,i.1<b
def V4(b:Nat)(ρ:List (Nat×Nat))(x x':aE):Prop:=(x'=x/\cR b x)\/∃cs cs' rw g,x=.cells cs rw g/\xE (kr b ρ 20) cs=some cs'/\x'=.cells cs' rw g
theorem vV{ρ:List (Nat×Nat)}{D':Nat->Prop}(h:EA b ρ D D' m m'){o:Option Obj}(hr:cS D m l x o)(hx:cR b x):cS D' m' l x o:=by
 have lv:∀v,db D m v->(∀i∈aD v,i.1<b)->aj m' v=aj m v/\db D' m' v:=λv hv hb=>by
  have hs:∀i∈aD v,D' i.1/\m' i.1=m i.1:=λi hi=>h.low i.1 (hv i hi).1 (hb i hi);exact⟨iY v λi hi=>(hs i hi).2,λi hi=>⟨(hs i hi).1,by rw[(hs i hi).2];exact(hv i hi).2⟩⟩
 cases x with
 | dead=>trivial
 | cells cs rw g=>
   obtain⟨c,e,fz,hb,hc⟩:=hr;have hv:∀v∈cs,aj m' v=aj m v/\db D' m' v:=λv hv=>lv v (dK.1 hc.okc v hv) λi hi=>hx.2 i (fO.2 ⟨v,hv,hi⟩);exact⟨c,e,fz,hb,⟨λi v hi=>by rw[hc.at' i v hi,(hv v (List.mem_of_getElem? hi)).1],dK.2 λv hm=>(hv v hm).2,hc.free,hc.grow⟩⟩
 | map es=>
   obtain⟨en,ck,hb,he,ho⟩:=hr;have hv:∀e∈es,(aj m' e.1=aj m e.1/\db D' m' e.1)/\(aj m' e.2=aj m e.2/\db D' m' e.2):=λe hm=>
    ⟨lv e.1 (ho e hm).1 λi hi=>hx.2 i (List.mem_append.2 (.inl (fO.2 ⟨e.1,List.mem_map.2 ⟨e,hm,rfl⟩,hi⟩))),lv e.2 (ho e hm).2 λi hi=>hx.2 i (List.mem_append.2 (.inr (fO.2 ⟨e.2,List.mem_map.2 ⟨e,hm,rfl⟩,hi⟩)))⟩
   exact⟨en,ck,hb,he.trans (List.map_congr_left λe hm=>by rw[(hv e hm).1.1,(hv e hm).2.1]),λe hm=>⟨(hv e hm).1.2,(hv e hm).2.2⟩⟩
 | siter s p=>exact hr
 | loop r=>exact absurd hx.1 (by simp[xp])
 | defs=>exact hr
theorem NA{ρ:List (Nat×Nat)}{D':Nat->Prop}(h:EA b ρ D D' m m'){o:Option Obj}(hr:cS D m l x o)(hx:V4 b ρ x x'):cS D' m' l x' o:=by
 rcases hx with⟨rfl,hl⟩|⟨cs,cs',rw',g,rfl,hm,rfl⟩
 . exact vV h hr hl
 . obtain⟨c,e,fz,hb,hc⟩:=hr;obtain⟨h1,h2⟩:=SN h hm hc.okc;refine⟨c,e,fz,hb,⟨λi v hi=>?_,h2,hc.free,hc.grow⟩⟩;have e2:(ap m cs)[i]? = some (aj m' v):=by rw[<-h1,fh,List.getElem?_map,hi];rfl
   rw[fh,List.getElem?_map]at e2;obtain⟨u,hu,e3⟩:=Option.map_eq_some_iff.1 e2;rw[hc.at' i u hu,e3]
theorem Ip{ρ:List (Nat×Nat)}(hx:V4 b ρ x x'):nQ x'=nQ x/\Dp x'=Dp x:=by
 rcases hx with⟨rfl,_⟩|⟨cs,cs',rw',g,rfl,_,rfl⟩
 . exact⟨rfl,rfl⟩
 . exact⟨rfl,rfl⟩
def Ms(C:bg):Prop:=∀id,id<C.lo->cR C.lo (gy C.B id)
def ia(lo:Nat):Nat->List Nat->List (Nat×Nat)
 | _,[]=>[]
 | j,s::ss=>(lo+s,lo+j)::ia lo (j+1) ss
theorem xw{lo:Nat}:∀{ss:List Nat} {j i k:Nat},xH (ia lo j ss) i=some k->∃t,t<ss.length/\i=lo+ss.getD t 0/\k=lo+(j+t)
 | [],j,i,k,h=>by cases h
 | s::ss,j,i,k,h=>by
   rw[ia,xH]at h;by_cases e:lo+s=i
   . rw[gb e,cond_true,zAc]at h;exact⟨0,by simp,by simp[e],by simp[<-h]⟩
   . rw[g7 e,cond_false]at h;obtain⟨t,h1,h2,h3⟩:=xw h;exact⟨t+1,by simpa using h1,by simpa using h2,by omega⟩
theorem pf(hK:rI cfg){kb:Nat}{sel:List Nat}{ts':Ts}{o':aC}(hlow:Ms C)(hkb:kb<=st.o.n)
 (hsel:∀s∈sel,kb<=s/\s<st.o.n) (hnd:sel.Nodup)
 (hle:∀p∈st.o.le,cR (C.lo+kb) p.2) (hle':o'.le=st.o.le) (hn:o'.n=kb+sel.length) (hlen:o'.os.length=o'.n)
 (hold:∀i,i<kb->o'.at i=st.o.at i/\cR (C.lo+kb) (st.o.at i))
 (hnew:∀t,t<sel.length->V4 (C.lo+kb) (ia C.lo kb sel) (st.o.at (sel.getD t 0)) (o'.at (kb+t)))
 (hts:wy (kr (C.lo+kb) (ia C.lo kb sel) 20) st.ts=some ts') (hds:∀d∈st.ds,d<C.lo+kb) (hro:∀i,st.ro=some i->i<C.lo+kb) :
 Wk cfg C kb st λs=>s=⟨ts',st.tn,o',st.ds,st.ro⟩:=by
 intro D m a w hi ht;obtain⟨D',hD'⟩:∃D':Nat->Prop,D'=λid=>(id<C.lo+kb/\D id)\/∃t,t<sel.length/\id=C.lo+kb+t/\D (C.lo+sel.getD t 0):=⟨_,rfl⟩;obtain⟨m',hm'⟩:∃m':Nat->bq,m'=λid=>if id<C.lo+kb then m id else m (C.lo+sel.getD (id-(C.lo+kb)) 0):=⟨_,rfl⟩
 have mlow:∀i,i<C.lo+kb->m' i=m i:=λi h=>by rw[hm'];simp[h]
 have mnew:∀t,m' (C.lo+kb+t)=m (C.lo+sel.getD t 0):=λt=>by
  rw[hm'];simp only[if_neg (by omega:¬C.lo+kb+t<C.lo+kb)];rw[show C.lo+kb+t-(C.lo+kb)=t by omega]
 have ok:EA (C.lo+kb) (ia C.lo kb sel) D D' m m':=by
  refine⟨λi hd hlt=>⟨by rw[hD'];exact .inl ⟨hlt,hd⟩,mlow i hlt⟩,λi j hl hd=>?_⟩;obtain⟨t,h1,rfl,rfl⟩:=xw hl;rw[show C.lo+(kb+t)=C.lo+kb+t by omega];exact⟨by rw[hD'];exact .inr ⟨t,h1,rfl,hd⟩,mnew t⟩
 have hselt:∀t,t<sel.length->kb<=sel.getD t 0/\sel.getD t 0<st.o.n:=λt h=>hsel _ (by simp[zAe,h]);have glow:∀i,i<C.lo+kb->get C o' i=get C st.o i/\cR (C.lo+kb) (get C st.o i):=λi h=>by
  unfold get gy;by_cases hc:C.lo<=i
  . rw[bv.2 hc,cond_true,cond_true];exact hold (i-C.lo) (by omega)
  . rw[jK hc,cond_false,cond_false,hle'];refine⟨rfl,?_⟩;simp only;have lw:cR (C.lo+kb) (gy C.B i):=⟨(hlow i (by omega)).1,λj hj=>by have:=(hlow i (by omega)).2 j hj;omega⟩;cases hx:fg st.o.le i with
    | none=>exact lw
    | some x=>
      have:∀le:List (Nat×aE),fg le i=some x->∃p∈le,p.2=x:=by
       intro le;induction le with
       | nil=>intro h;cases h
       | cons p le ih=>
         intro h;rw[fg]at h;by_cases e:p.1=i
         . rw[gb e,cond_true,zAc]at h;exact⟨p,List.mem_cons_self,h⟩
         . rw[g7 e,cond_false]at h;obtain⟨q,hq,e'⟩:=ih h;exact⟨q,List.mem_cons_of_mem _ hq,e'⟩
      obtain⟨p,hp,e⟩:=this _ hx;rw[<-e];exact hle p hp
 have gnew:∀t,t<sel.length->V4 (C.lo+kb) (ia C.lo kb sel) (get C st.o (C.lo+sel.getD t 0)) (get C o' (C.lo+kb+t)):=λt h=>by
  unfold get gy;rw[bv.2 (by omega:C.lo<=C.lo+sel.getD t 0),bv.2 (by omega:C.lo<=C.lo+kb+t),cond_true,cond_true,show C.lo+sel.getD t 0-C.lo=sel.getD t 0 by omega,show C.lo+kb+t-C.lo=kb+t by omega];exact hnew t h
 have inj:∀t u,t<sel.length->u<sel.length->sel.getD t 0=sel.getD u 0->t=u:=λt u h1 h2 e=>by
  have hp:=List.pairwise_iff_getElem.1 hnd;have e':sel[t]=sel[u]:=by simpa [List.getD_eq_getElem?_getD,h1,h2]using e
  rcases Nat.lt_trichotomy t u with h|h|h
  . exact absurd e' (hp t u h1 h2 h)
  . exact h
  . exact absurd e'.symm (hp u t h2 h1 h)
 have src:∀i,D' i->∃j,D j/\m' i=m j/\nQ (get C o' i)=nQ (get C st.o j)/\Dp (get C o' i)=Dp (get C st.o j)/\((i<C.lo+kb/\j=i)\/∃t,t<sel.length/\i=C.lo+kb+t/\j=C.lo+sel.getD t 0):=λi h=>by
  rw[hD']at h;rcases h with⟨h1,h2⟩|⟨t,h1,rfl,h2⟩
  . exact⟨i,h2,mlow i h1,by rw[(glow i h1).1],by rw[(glow i h1).1],.inl ⟨h1,rfl⟩⟩
  . have:=Ip (gnew t h1);exact⟨_,h2,mnew t,this.1,this.2,.inr ⟨t,h1,rfl,rfl⟩⟩
 have hinv:dV cfg D' m' C o' w:=by
  refine⟨λi hd=>?_,λi j hdi hdj hij hl hr=>?_,λi hd=>?_,λg hg=>?_,λi hid=>?_,λi hid=>hi.le i (by rw[hle']at hid;exact hid),hi.lo,hlen⟩
  . rw[hD']at hd;rcases hd with⟨h1,h2⟩|⟨t,h1,rfl,h2⟩
    . rw[mlow i h1,(glow i h1).1];exact vV ok (hi.obj i h2) (glow i h1).2
    . rw[mnew t];exact NA ok (hi.obj _ h2) (gnew t h1)
  . obtain⟨i',di,ei,li,ri,ci⟩:=src i hdi;obtain⟨j',dj,ej,lj,rj,cj⟩:=src j hdj;rw[ei,ej];refine hi.inj i' j' di dj (λe=>hij ?_) (by rw[<-li];exact hl) (by rw[<-rj];exact hr);rcases ci with⟨c1,rfl⟩|⟨t,c1,rfl,rfl⟩<;>rcases cj with⟨d1,rfl⟩|⟨u,d1,rfl,rfl⟩
    . exact e
    . have:=hselt u d1;omega
    . have:=hselt t c1;omega
    . have:=inj t u c1 d1 (by omega);omega
  . rw[hD']at hd;rcases hd with⟨h1,h2⟩|⟨t,h1,rfl,h2⟩<;>omega
  . obtain⟨a1,a2,a3⟩:=hi.glob g hg;have hlt:g<C.lo+kb:=by have:=hK.G;have:=hi.lo;omega
    exact⟨by rw[hD'];exact .inl ⟨hlt,a1⟩,by rw[mlow g hlt];exact a2,by rw[mlow g hlt];exact a3⟩
  . obtain⟨a1,a2⟩:=hi.root i hid;have hlt:i<C.lo+kb:=by have:=hi.lo;omega
    exact⟨by rw[hD'];exact .inl ⟨hlt,a1⟩,by rw[(glow i hlt).1];exact a2⟩
 refine⟨_,D',m',rfl,⟨ht.size,λt=>?_,λt=>?_,?_,λd hd=>by rw[hD'];exact .inl ⟨hds d hd,ht.dsD d hd⟩,λi h=>by rw[hD'];exact .inl ⟨hro i h,ht.roD i h⟩⟩,rfl,?_,hinv,λD0 m0 o0 w0 ho hl he=>?_⟩
 . have:=vU (f:=kr (C.lo+kb) (ia C.lo kb sel) 20) rfl t hts;rw[ht.at' t];exact(tq ok this (ht.okt t)).1.symm
 . have:=vU (f:=kr (C.lo+kb) (ia C.lo kb sel) 20) rfl t hts;exact(tq ok this (ht.okt t)).2
 . rw[ht.defers];exact List.map_congr_left λd hd=>by rw[mlow d (hds d hd)]
 . cases hr:st.ro with
   | none=>rfl
   | some i=>simp only[vL,Option.map_some,mlow i (hro i hr)]
 . have low0:∀i,D0 i->i<C.lo+kb:=λi h=>by have:=hl i h;omega
   refine⟨hinv,λi h=>by rw[hD'];exact .inl ⟨low0 i h,he.sub i h⟩,λi h=>by rw[mlow i (low0 i h)];exact he.same i h,λi h=>?_,by simp only;omega,he.os,he.tape,he.output,he.size,he.frame,by simp only[hle'];exact he.leIds,λi h hn=>?_⟩
   . rw[hD']at h;rcases h with⟨h1,h2⟩|⟨t,h1,rfl,h2⟩
     . exact he.new i h2
     . exact .inr (by omega)
   . rw[hD']at h;rcases h with⟨h1,h2⟩|⟨t,h1,rfl,h2⟩
     . rw[mlow i h1];exact he.fresh i h2 hn
     . rw[mnew t];have:=hselt t h1;exact he.fresh _ h2 λh0=>by have:=hl _ h0;omega
end
def Cw(cfg:cG)(ws:List aE):bg:=⟨[(cfg.root.n,⟨ws.length,ws.reverse,[]⟩),(0,cfg.root)],cfg.root.n+ws.length⟩
structure z6 where
 szs:List Nat
 ws:List aE
 ok:Bool
def xq:eZ->eZ
 | .known c=>.known c
 | .rest _=>.rest 0
def mG(f:AV->z6->Option (AV×z6)):List AV->z6->Option (List AV×z6)
 | [],q=>some ([],q)
 | v::vs,q=>ob (f v q) λp=>ob (mG f vs p.2) λp'=>some (p.1::p'.1,p'.2)
def cN(cs:List AV)(off n:Nat):List AV:=(cs.drop off).take n
def nC(r:Nat)(C:bg)(o:aC):Nat->AV->z6->Option (AV×z6)
 | 0,_,_=>none
 | d+1,v,q=>match v with
   | .slice id off len c=>(match q.szs with
     | []=>none
     | sz::szs=>ob (cellsOf (get C o id)) λcs=>some (.slice (r+q.ws.length) 0 len (xq c),⟨szs,q.ws++[.cells (cN cs off (len*sz)) false none],q.ok&&(Nat.ble (off+len*sz) cs.length&&bw r (cN cs off (len*sz)))⟩))
   | .agg cs=>ob (mG (nC r C o d) cs q) λp=>some (.agg p.1,p.2)
   | .func f a b=>ob (mG (nC r C o d) a q) λp=>ob (mG (nC r C o d) b p.2) λp'=>some (.func f p.1 p'.1,p'.2)
   | .iface t v=>ob (nC r C o d v q) λp=>some (.iface t p.1,p.2)
   | .ptr id off=>ok (aW id r) (some (.ptr id off,q))
   | .tuple _=>none
   | .map _=>none
   | .yield _=>none
   | v=>some (v,q)
def Tx(b b':Nat):Nat->List (Nat×Nat)
 | 0=>[]
 | n+1=>(b+n,b'+n)::Tx b b' n
abbrev lB:Type:=List AV->List aE->Option (Tr (AV×List aE))
def Vi(r b:Nat)(C:bg)(o:aC)(x:AV×List aE):Tr (AV×aC):=
 aU (kr r (Tx b (C.lo+o.n) x.2.length) 20 x.1) λv=>.ret (v,⟨x.2.length+o.n,x.2++o.os,o.le⟩)
def fy(r:Nat)(szs:List Nat)(e:lB):Ha:=λC args o=>
 ob (mG (nC r C o 20) args ⟨szs,[],true⟩) λq=>ob (e q.1 q.2.ws) λt=>some (fI q.2.ok (t.bind (Vi r (r+q.2.ws.length) C o)))
def bt(P:Program)(cfg:cG)(f:FuncId)(args:List AV)(ws:List aE)(v:AV)(news:List aE):Prop:=
 ∀D m w,dV cfg D m (Cw cfg ws) ⟨0,[],[]⟩ w->fN D m args->jX P f (ap m args).toArray w λV w'=>∃D' m',V=aj m' v/\db D' m' v/\dk cfg (Cw cfg ws) D m ⟨0,[],[]⟩ w D' m' ⟨news.length,news,[]⟩ w'
def Vr(P:Program)(cfg:cG)(f:FuncId)(e:lB):Prop:=∀args ws t r,e args ws=some t->t.run=some r->bt P cfg f args ws r.1 r.2/\∀x∈r.2,cR cfg.root.n x
theorem Db{b b':Nat}:∀{n i k:Nat},xH (Tx b b' n) i=some k->∃j,j<n/\i=b+j/\k=b'+j
 | 0,i,k,h=>by cases h
 | n+1,i,k,h=>by
   rw[Tx,xH]at h;by_cases e:b+n=i
   . rw[gb e,cond_true,zAc]at h;exact⟨n,by omega,e.symm,h.symm⟩
   . rw[g7 e,cond_false]at h;obtain⟨j,h1,h2,h3⟩:=Db h;exact⟨j,by omega,h2,h3⟩
section
variable{cfg:cG}{C:bg}{o:aC}{D:Nat->Prop}{m:Nat->bq}{w:World}
def mL(r:Nat)(m:Nat->bq)(L:List bq)(id:Nat):bq:=if id<r then m id else L.getD (id-r) ⟨0,0,0⟩
def DL(r:Nat)(D:Nat->Prop)(L:List bq)(id:Nat):Prop:=(id<r/\D id)\/(r<=id/\id<r+L.length)
theorem ou(h:id<r):mL r m L id=m id:=if_pos h
theorem J_{j:Nat}(h:L[j]? = some l):mL r m L (r+j)=l:=by
 unfold mL;rw[if_neg (by omega),show r+j-r=j by omega,zAe,h];rfl
def Jn(r:Nat)(D:Nat->Prop)(m:Nat->bq)(w:World)(x:aE)(l:bq):Prop:=
 ∃win,x=.cells win false none/\bw r win/\fN D m win/\∃c e fz,w.heap[l.blk]? = some (.cells c e fz)/\∀i v,win[i]? = some v->c[l.base+i]? = some (aj m v)
def Me(r:Nat)(D:Nat->Prop)(m:Nat->bq)(w:World)(L:List bq)(ws:List aE):Prop:=L.length=ws.length/\∀(j:Nat) (x:aE) (l:bq),ws[j]? = some x->L[j]? = some l->Jn r D m w x l
theorem Me.push(h:Me r D m w L ws)(hx:Jn r D m w x l):Me r D m w (L++[l]) (ws++[x]):=by
 refine⟨by simp[h.1],λj y k hy hk=>?_⟩;by_cases e:j<ws.length
 . rw[List.getElem?_append_left e]at hy;rw[List.getElem?_append_left (by rw[h.1];exact e)]at hk;exact h.2 j y k hy hk
 . rw[List.getElem?_append_right (by omega)]at hy;rw[List.getElem?_append_right (by rw[h.1];omega)]at hk;have hj:j-ws.length=0:=by
    grind
   rw[hj]at hy;rw[show j-L.length=0 by rw[h.1];exact hj]at hk;simp only[List.getElem?_cons_zero,zAc]at hy hk;rw[<-hy,<-hk];exact hx
def K3(r:Nat)(D:Nat->Prop)(m:Nat->bq)(w:World)(L:List bq)(q q':z6)(S:List bq->Prop):Prop:=
 ∃L',q.ok/\Me r D m w (L++L') q'.ws/\∀L'',S ((L++L')++L'')
section
variable(hi:dV cfg D m C o w)
include hi
theorem AN{d:Nat}(ih:∀{v q v' q'},nC cfg.root.n C o d v q=some (v',q')->db D m v->q'.ok->∀L,Me cfg.root.n D m w L q.ws->K3 cfg.root.n D m w L q q' λK=>aj (mL cfg.root.n m K) v'=aj m v/\db (DL cfg.root.n D K) (mL cfg.root.n m K) v') :
 ∀{vs:List AV} {q:z6} {vs':List AV} {q':z6},mG (nC cfg.root.n C o d) vs q=some (vs',q')->fN D m vs->q'.ok->∀L,Me cfg.root.n D m w L q.ws->K3 cfg.root.n D m w L q q' λK=>ap (mL cfg.root.n m K) vs'=ap m vs/\fN (DL cfg.root.n D K) (mL cfg.root.n m K) vs'
 | [],q,vs',q',h,_,hq,L,hL=>by
   cases h;exact⟨[],hq,by simpa using hL,λL''=>⟨by simp[ap],fH⟩⟩
 | v::vs,q,vs',q',h,hok,hq,L,hL=>by
   simp only[mG,ai,zAc,Prod.mk.injEq]at h;obtain⟨⟨v1,q1⟩,h1,⟨vs1,q2⟩,h2,rfl,rfl⟩:=h;obtain⟨a1,a2⟩:=ct.1 hok;have hq1:q1.ok=true:=by
    have mono:∀{d:Nat} {v:AV} {q:z6} {r:AV×z6},nC cfg.root.n C o d v q=some r->r.2.ok->q.ok=true:=by
     intro d;induction d with
     | zero=>intro v q r h;cases h
     | succ d ihd=>
       have hl:∀{vs:List AV} {q:z6} {r:List AV×z6},mG (nC cfg.root.n C o d) vs q=some r->r.2.ok->q.ok=true:=by
        intro vs;induction vs with
        | nil=>intro q r h hr;cases h;exact hr
        | cons v vs ihv=>
          intro q r h hr;simp only[mG,ai,zAc]at h;obtain⟨p,hp,p',hp',rfl⟩:=h;exact ihd hp (ihv hp' hr)
       intro v q r h hr;unfold nC at h;cases v<;>simp only[ai,aA,zAc,reduceCtorEq]at h
       case slice id off len c=>
        split at h
        . cases h
        . simp only[ai,zAc]at h;obtain⟨cs,_,rfl⟩:=h;simp only[zAa]at hr;exact hr.1
       case agg cs=>obtain⟨p,hp,rfl⟩:=h;exact hl hp hr
       case func f a b=>obtain⟨p,hp,p',hp',rfl⟩:=h;exact hl hp (hl hp' hr)
       case iface t v=>obtain⟨p,hp,rfl⟩:=h;exact ihd hp hr
       case ptr=>obtain⟨_,rfl⟩:=h;exact hr
       all_goals (subst h;exact hr)
    have monoL:∀{vs:List AV} {q:z6} {r:List AV×z6},mG (nC cfg.root.n C o d) vs q=some r->r.2.ok->q.ok=true:=by
     intro vs;induction vs with
     | nil=>intro q r h hr;cases h;exact hr
     | cons v vs ihv=>
       intro q r h hr;simp only[mG,ai,zAc]at h;obtain⟨p,hp,p',hp',rfl⟩:=h;exact mono hp (ihv hp' hr)
    exact monoL h2 hq
   obtain⟨L1,b1,b2,b3⟩:=ih h1 a1 hq1 L hL;obtain⟨L2,c1,c2,c3⟩:=AN ih h2 a2 hq _ b2;refine⟨L1++L2,b1,by rw[<-List.append_assoc];exact c2,λL''=>?_⟩;have x:=b3 (L2++L'');have y:=c3 L'';rw[show L++L1++(L2++L'')=L++(L1++L2)++L'' by simp]at x;rw[show L++L1++L2++L''=L++(L1++L2)++L'' by simp]at y;exact⟨by simp only[ap];rw[x.1,y.1],ct.2 ⟨x.2,y.2⟩⟩
theorem AO:∀{d:Nat} {v:AV} {q:z6} {v':AV} {q':z6},nC cfg.root.n C o d v q=some (v',q')->db D m v->q'.ok->∀L,Me cfg.root.n D m w L q.ws->K3 cfg.root.n D m w L q q' λK=>aj (mL cfg.root.n m K) v'=aj m v/\db (DL cfg.root.n D K) (mL cfg.root.n m K) v'
 | 0,v,q,v',q',h,_,_,L,hL=>by cases h
 | d+1,v,q,v',q',h,hok,hq,L,hL=>by
   have ihL:=@AN cfg C o D m w hi d (λ{v q v' q'}=>AO (d:=d) (v:=v) (q:=q) (v':=v') (q':=q'));unfold nC at h;cases v<;>simp only[ai,aA,zAc,reduceCtorEq,Prod.mk.injEq]at h
   case slice id off len c=>
    split at h
    . cases h
    . rename_i sz szs hsz;simp only[ai,zAc,Prod.mk.injEq]at h;obtain⟨cs,hcs,rfl,rfl⟩:=h;simp only[zAa,bv]at hq;obtain⟨hq1,hle,hbl⟩:=hq;obtain⟨hD,hcap⟩:=hok (id,fj len c) (by simp[aD]);have hobj:=hi.obj id hD;obtain⟨rw',g,hg⟩:∃rw' g,get C o id=.cells cs rw' g:=by
       unfold cellsOf at hcs;split at hcs
       . grind
       . cases hcs
      rw[hg]at hobj;obtain⟨cc,e,fz,hb,hc⟩:=hobj;have win_at:∀i v,(cN cs off (len*sz))[i]? = some v->cs[off+i]? = some v:=λi v hv=>by
       unfold cN at hv;rw[List.getElem?_take]at hv;split at hv
       . grind
       . cases hv
      let l:bq:=⟨(m id).blk,(m id).base+off,match c with|.known _=>0|.rest k=>(m id).cap-k⟩
      have hW:Jn cfg.root.n D m w (.cells (cN cs off (len*sz)) false none) l:=
       ⟨_,rfl,hbl,dK.2 λv hv=>by
        obtain⟨i,hi'⟩:=List.getElem?_of_mem hv;exact dK.1 hc.okc v (List.mem_of_getElem? (win_at i v hi')),cc,e,fz,hb,λi v hv=>by
        have:=hc.at' _ v (win_at i v hv);rw[show l.base+i=(m id).base+(off+i)by simp only[l];omega];exact this⟩
      refine⟨[l],hq1,hL.push hW,λL''=>?_⟩;have hj:((L++[l])++L'')[q.ws.length]? = some l:=by
       rw[List.append_assoc,List.getElem?_append_right (Nat.le_of_eq hL.1),hL.1];simp
      refine⟨?_,λi hi'=>?_⟩
      . simp only[aj,J_ hj];cases c with
        | known n=>simp[xq,jA,l]
        | rest k=>simp[xq,jA,l]
      . simp only[aD,zAf]at hi';subst hi';refine⟨.inr ⟨by simp only;omega,by simp only[zAg,hL.1,zAd,List.length_nil];omega⟩,?_⟩;simp only[J_ hj];cases c with
        | known n=>simp[xq,fj]
        | rest k=>simp only[xq,fj,l];simp only[fj]at hcap;omega
   case agg cs=>
    obtain⟨⟨vs',q1⟩,h1,rfl,rfl⟩:=h;obtain⟨L',x1,x2,x3⟩:=ihL h1 (iJ.1 hok) hq L hL;exact⟨L',x1,x2,λL''=>⟨by simp only[aj];rw[(x3 L'').1],iJ.2 (x3 L'').2⟩⟩
   case func f a b=>
    obtain⟨⟨a',q1⟩,h1,⟨b',q2⟩,h2,rfl,rfl⟩:=h;have hcat:mG (nC cfg.root.n C o d) (a++b) q=some (a'++b',q2):=by
     have:∀{xs:List AV} {q q1 q2:z6} {xs':List AV},mG (nC cfg.root.n C o d) xs q=some (xs',q1)->mG (nC cfg.root.n C o d) b q1=some (b',q2)->mG (nC cfg.root.n C o d) (xs++b) q=some (xs'++b',q2):=by
      intro xs;induction xs with
      | nil=>intro q q1 q2 xs' h1 h2;cases h1;exact h2
      | cons x xs ih=>
        intro q q1 q2 xs' h1 h2;simp only[mG,ai,zAc,Prod.mk.injEq]at h1;obtain⟨p,hp,⟨ys,q3⟩,hp',rfl,rfl⟩:=h1;simp only[List.cons_append,mG,hp,ob,ih hp' h2]
     exact this h1 h2
    obtain⟨L',x1,x2,x3⟩:=ihL hcat (eA.2 ⟨λi hi'=>hok i (by simp[aD,hi']),λi hi'=>hok i (by simp[aD,hi'])⟩) hq L hL;refine⟨L',x1,x2,λL''=>?_⟩;obtain⟨y1,y2⟩:=x3 L'';have hlen:a'.length=a.length:=by
     have:∀{xs:List AV} {q:z6} {r:List AV×z6},mG (nC cfg.root.n C o d) xs q=some r->r.1.length=xs.length:=by
      intro xs;induction xs with
      | nil=>intro q r h;cases h;rfl
      | cons x xs ih=>
        intro q r h;simp only[mG,ai,zAc]at h;obtain⟨p,_,p',hp',rfl⟩:=h;simp[ih hp']
     exact this h1
    rw[lL,lL]at y1;obtain⟨z1,z2⟩:=List.append_inj y1 (by rw[b_,b_,hlen]);obtain⟨u1,u2⟩:=eA.1 y2;refine⟨by simp only[aj];rw[z1,z2],λi hi'=>?_⟩;simp only[aD,List.mem_append]at hi';exact hi'.elim (u1 i) (u2 i)
   case iface t u=>
    obtain⟨⟨u',q1⟩,h1,rfl,rfl⟩:=h;obtain⟨L',x1,x2,x3⟩:=AO h1 (λi hi'=>hok i (by simpa [aD]using hi')) hq L hL;exact⟨L',x1,x2,λL''=>⟨by simp only[aj];rw[(x3 L'').1],λi hi'=>(x3 L'').2 i (by simpa [aD]using hi')⟩⟩
   case ptr id off=>
    obtain⟨h1,rfl,rfl⟩:=h;rw[aS]at h1;refine⟨[],hq,by simpa using hL,λL''=>⟨by simp only[aj,ou h1],λi hi'=>?_⟩⟩;simp only[aD,zAf]at hi';subst hi';exact⟨.inl ⟨h1,(hok (id,0) (by simp[aD])).1⟩,by simp⟩
   all_goals
    obtain⟨rfl,rfl⟩:=h;exact⟨[],hq,by simpa using hL,λL''=>⟨by simp[aj],bQ (by simp[aD])⟩⟩
end
end
section
variable{cfg:cG}(hK:rI cfg)(hRO:∀id,id<cfg.root.n->Dp (cfg.root.at id)=false)
theorem nN{o1:aC}(hle:o1.le=[]):(id<cfg.root.n->get (Cw cfg ws) o1 id=cfg.root.at id)/\(∀j x,ws[j]? = some x->get (Cw cfg ws) o1 (cfg.root.n+j)=x)/\(∀j,get (Cw cfg ws) o1 (cfg.root.n+ws.length+j)=o1.at j):=by
 refine⟨λh=>?_,λj x hj=>?_,λj=>?_⟩
 . rw[get,gy];simp only[Cw];rw[jK (by omega),cond_false,hle];simp only[fg,gy];rw[jK (by omega),cond_false,bv.2 (Nat.zero_le _),cond_true,Nat.sub_zero]
 . have hlt:=(List.getElem?_eq_some_iff.1 hj).1;rw[get,gy];simp only[Cw];rw[jK (by omega),cond_false,hle];simp only[fg,gy];rw[bv.2 (by omega),cond_true];unfold aC.at;simp only;rw[zAe,List.getElem?_reverse (by omega),show ws.length-1-(ws.length-1-(cfg.root.n+j-cfg.root.n))=j by omega,hj];rfl
 . rw[get,gy];simp only[Cw];rw[bv.2 (by omega),cond_true,show cfg.root.n+ws.length+j-(cfg.root.n+ws.length)=j by omega]
include hK hRO in
theorem Is{C:bg}{o:aC}{w:World}(hi:dV cfg D m C o w)(hL:Me cfg.root.n D m w L ws) :
 dV cfg (DL cfg.root.n D L) (mL cfg.root.n m L) (Cw cfg ws) ⟨0,[],[]⟩ w:=by
 have low:∀v,db D m v->(∀i∈aD v,i.1<cfg.root.n)->aj (mL cfg.root.n m L) v=aj m v/\db (DL cfg.root.n D L) (mL cfg.root.n m L) v:=λv hv hb=>
  ⟨iY v λi hm=>ou (hb i hm),λi hm=>⟨.inl ⟨hb i hm,(hv i hm).1⟩,by rw[ou (hb i hm)];exact(hv i hm).2⟩⟩
 have win:∀j,j<L.length->∃x l,ws[j]? = some x/\L[j]? = some l/\Jn cfg.root.n D m w x l:=λj h=>by
  have h2:j<ws.length:=by rw[<-hL.1];exact h
  exact⟨_,_,List.getElem?_eq_getElem h2,List.getElem?_eq_getElem h,hL.2 j _ _ (List.getElem?_eq_getElem h2) (List.getElem?_eq_getElem h)⟩
 have mvok:EA cfg.root.n [] D (DL cfg.root.n D L) m (mL cfg.root.n m L):=⟨λi hd h=>⟨.inl ⟨h,hd⟩,ou h⟩,λi j h=>by cases h⟩;refine⟨λid hd=>?_,λi j hdi hdj hij hl hr=>?_,λid hd=>?_,λg hg=>?_,λid hid=>?_,λid hid=>(by cases hid),by simp only[Cw];omega,rfl⟩
 . rcases hd with⟨h1,h2⟩|⟨h1,h2⟩
   . rw[(nN rfl).1 h1,ou h1,<-(hi.root id h1).2];exact vV mvok (hi.obj id h2) ⟨by rw[(hi.root id h1).2];exact hK.loops id h1,λi hm=>by rw[(hi.root id h1).2]at hm;exact hK.root id h1 i hm⟩
   . obtain⟨j,rfl⟩:∃j,id=cfg.root.n+j:=⟨id-cfg.root.n,by omega⟩;obtain⟨x,l,hx,hl,cs,rfl,hbl,hok,c,e,fz,hb,hat⟩:=win j (by omega);rw[(nN (cfg:=cfg) (id:=0) rfl).2.1 j _ hx,J_ hl];have hlow:∀v∈cs,aj (mL cfg.root.n m L) v=aj m v/\db (DL cfg.root.n D L) (mL cfg.root.n m L) v:=λv hv=>low v (dK.1 hok v hv) λi hm=>ti hbl i (fO.2 ⟨v,hv,hm⟩);exact⟨c,e,fz,hb,⟨λi v hv=>by rw[hat i v hv,(hlow v (List.mem_of_getElem? hv)).1],dK.2 λv hv=>(hlow v hv).2,λh=>(by cases h),λs h=>(by cases h)⟩⟩
 . exfalso;rcases hdj with⟨h1,h2⟩|⟨h1,h2⟩
   . rw[(nN rfl).1 h1,hRO j h1]at hr;cases hr
   . obtain⟨k,rfl⟩:∃k,j=cfg.root.n+k:=⟨j-cfg.root.n,by omega⟩;obtain⟨x,l,hx,hl',cs,rfl,_⟩:=win k (by omega);rw[(nN (cfg:=cfg) (id:=0) rfl).2.1 k _ hx]at hr;cases hr
 . rcases hd with⟨h1,h2⟩|⟨h1,h2⟩
   . simp only[Cw];omega
   . have:=hL.1;simp only[Cw];omega
 . obtain⟨a1,a2,a3⟩:=hi.glob g hg;have:=hK.G;exact⟨.inl ⟨by omega,a1⟩,by rw[ou (by omega)];exact a2,by rw[ou (by omega)];exact a3⟩
 . exact⟨.inl ⟨hid,(hi.root id hid).1⟩,(nN rfl).1 hid⟩
theorem ga{P:Program}{f:FuncId}{szs:List Nat}{e:lB}(hK:rI cfg)(hRO:∀id,id<cfg.root.n->Dp (cfg.root.at id)=false)(h:Vr P cfg f e):yp P cfg f (fy cfg.root.n szs e):=by
 intro C args o t r ht hr;unfold fy at ht;rw[ai]at ht;obtain⟨⟨args',q⟩,hcan,ht⟩:=ht;simp only[ai,zAc]at ht;obtain⟨t0,he,rfl⟩:=ht;obtain⟨hq,hr⟩:=bE hr;obtain⟨⟨v,news⟩,hv,hr⟩:=Tr.run_bind hr;obtain⟨hfact,hlow⟩:=h args' q.ws t0 (v,news) he hv;unfold Vi at hr;obtain⟨v',hmv,hr⟩:=ar hr;cases hr;simp only at hmv hfact hlow ⊢;refine⟨λD m w hi hok=>?_,λhl=>?_⟩
 . have hW0:Me cfg.root.n D m w [] []:=⟨rfl,λj x l hj=>by simp at hj⟩;obtain⟨L',_,hL,hS⟩:=AN hi (d:=20) (λ{v q v' q'}=>AO hi) hcan hok hq [] hW0;have hS:=hS [];simp only[List.nil_append,List.append_nil]at hL hS;obtain⟨hc,hok'⟩:=hS;rw[<-hc];refine(hfact _ _ w (Is hK hRO hi hL) hok').mono ?_;rintro V w' ⟨D',m',rfl,hv',hx⟩;have hlo:=hi.lo;have hframe:∀k,k<w.heap.size->w'.heap[k]? = w.heap[k]? := λk hk=>hx.frame k hk λi hd ho=>by
    exfalso;have hlt:i<cfg.root.n+q.ws.length:=by
     rcases hd with⟨h1,_⟩|⟨_,h2⟩
     . omega
     . rw[<-hL.1];exact h2
    unfold dW at ho;rw[jK (by simp only[Cw];omega),cond_false]at ho;simp[fg]at ho
   have hfresh:∀i,D' i->¬DL cfg.root.n D L' i->w.heap.size<=(m' i).blk:=λi hd hn=>(hx.fresh i hd hn).resolve_right λ⟨j,hj,ho,_⟩=>by
    have hlt:j<cfg.root.n+q.ws.length:=by
     rcases hj with⟨h1,_⟩|⟨_,h2⟩
     . omega
     . rw[<-hL.1];exact h2
    unfold dW at ho;rw[jK (by simp only[Cw];omega),cond_false]at ho;simp[fg]at ho
   obtain⟨D2,hD2⟩:∃D2:Nat->Prop,D2=λid=>D id\/∃j,j<news.length/\id=C.lo+o.n+j/\D' (cfg.root.n+q.ws.length+j):=⟨_,rfl⟩;obtain⟨m2,hm2⟩:∃m2:Nat->bq,m2=λid=>if id<C.lo+o.n then m id else m' (cfg.root.n+q.ws.length+(id-(C.lo+o.n))):=⟨_,rfl⟩
   have m2low:∀i,i<C.lo+o.n->m2 i=m i:=λi h=>by rw[hm2];simp[h]
   have m2new:∀j,m2 (C.lo+o.n+j)=m' (cfg.root.n+q.ws.length+j):=λj=>by
    rw[hm2];simp only[if_neg (by omega:¬C.lo+o.n+j<C.lo+o.n)];rw[show C.lo+o.n+j-(C.lo+o.n)=j by omega]
   have hd'low:∀i,D' i->i<cfg.root.n->D i/\m' i=m i:=λi hd h=>by
    rcases hx.new i hd with h1|h1
    . have:=hx.same i h1;rcases h1 with⟨_,h2⟩|⟨h2,_⟩
      . exact⟨h2,by rw[this,ou h]⟩
      . omega
    . simp only[Cw]at h1;omega
   have mvok:EA cfg.root.n (Tx (cfg.root.n+q.ws.length) (C.lo+o.n) news.length) D' D2 m' m2:=by
    refine⟨λi hd h=>?_,λi j hl hd=>?_⟩
    . obtain⟨a,b⟩:=hd'low i hd h;exact⟨by rw[hD2];exact .inl a,by rw[m2low i (by omega),b]⟩
    . obtain⟨t,h1,rfl,rfl⟩:=Db hl;exact⟨by rw[hD2];exact .inr ⟨t,h1,rfl,hd⟩,m2new t⟩
   obtain⟨hcv,hokv⟩:=tq mvok hmv hv';have hnl:news.length=(⟨news.length,news,[]⟩:aC).n:=rfl;have gold:∀i,i<C.lo+o.n->get C ⟨news.length+o.n,news++o.os,o.le⟩ i=get C o i:=λi h=>sO (o1:=⟨news.length,news,[]⟩) (o:=o) rfl h;have gnew:∀j,j<news.length->get C ⟨news.length+o.n,news++o.os,o.le⟩ (C.lo+o.n+j)=(⟨news.length,news,[]⟩:aC).at j:=λj h=>by
    have:=zJ (C:=C) (o1:=⟨news.length,news,[]⟩) (o:=o) (i:=C.lo+o.n+j) rfl (by omega) (by simp only;omega);rw[show C.lo+o.n+j-(C.lo+o.n)=j by omega]at this;exact this
   have hold:∀i,D i->i<C.lo+o.n:=hi.lt;have hnew_low:∀j,j<news.length->cR cfg.root.n ((⟨news.length,news,[]⟩:aC).at j):=λj h=>by
    unfold aC.at;simp only;rw[zAe,List.getElem?_eq_getElem (by omega)];exact hlow _ (List.getElem_mem _)
   have hinv:dV cfg D2 m2 C ⟨news.length+o.n,news++o.os,o.le⟩ w':=by
    have hi':dV cfg D m C o w':=hi.world λj hj hlv=>hframe _ ((hi.obj j hj).in_heap hlv);refine⟨λid hd=>?_,λi j hdi hdj hij hl hr=>?_,λid hd=>?_,λg hg=>?_,λid hid=>?_,λid hid=>hi.le id hid,hi.lo,by simp[hi.len]⟩
    . rw[hD2]at hd;rcases hd with hd|⟨j,hj,rfl,hd⟩
      . rw[gold id (hold id hd),m2low id (hold id hd)];exact(hi'.obj id hd).mono (λi h=>by rw[hD2];exact .inl h) λi h=>m2low i (hold i h)
      . rw[gnew j hj,m2new];have:=hx.inv.obj _ hd;rw[(nN (cfg:=cfg) (id:=0) rfl).2.2 j]at this;exact vV mvok this (hnew_low j hj)
    . rw[hD2]at hdi hdj;have isnew:∀j,j<news.length->D' (cfg.root.n+q.ws.length+j)->w.heap.size<=(m' (cfg.root.n+q.ws.length+j)).blk:=λj hj hd=>hfresh _ hd λh=>by
       rcases h with⟨h1,_⟩|⟨_,h2⟩
       . omega
       . rw[hL.1]at h2;omega
      rcases hdi with hdi|⟨a,ha,rfl,hdi⟩<;>rcases hdj with hdj|⟨b,hb,rfl,hdj⟩
      . rw[gold i (hold i hdi)]at hl;rw[gold j (hold j hdj)]at hr;rw[m2low i (hold i hdi),m2low j (hold j hdj)];exact hi.inj i j hdi hdj hij hl hr
      . rw[gold i (hold i hdi)]at hl;rw[m2low i (hold i hdi),m2new];have h1:=(hi.obj i hdi).in_heap hl;have h2:=isnew b hb hdj;omega
      . rw[gold j (hold j hdj)]at hr;rw[m2low j (hold j hdj),m2new];have h1:=(hi.obj j hdj).in_heap (m9 hr);have h2:=isnew a ha hdi;omega
      . rw[gnew a ha]at hl;rw[gnew b hb]at hr;rw[m2new,m2new];refine hx.inv.inj _ _ hdi hdj (by omega) ?_ ?_
        . rw[(nN (cfg:=cfg) (id:=0) rfl).2.2 a];exact hl
        . rw[(nN (cfg:=cfg) (id:=0) rfl).2.2 b];exact hr
    . rw[hD2]at hd;rcases hd with hd|⟨j,hj,rfl,_⟩
      . have:=hold id hd;simp only;omega
      . simp only;omega
    . obtain⟨a1,a2,a3⟩:=hi.glob g hg;exact⟨by rw[hD2];exact .inl a1,by rw[m2low g (hold g a1)];exact a2,by rw[m2low g (hold g a1)];exact a3⟩
    . obtain⟨a1,a2⟩:=hi.root id hid;exact⟨by rw[hD2];exact .inl a1,by rw[gold id (hold id a1)];exact a2⟩
   have hfr2:∀i,D2 i->¬D i->w.heap.size<=(m2 i).blk:=λi h hn=>by
    rw[hD2]at h;rcases h with h|⟨j,hj,rfl,hd⟩
    . exact absurd h hn
    . rw[m2new];refine hfresh _ hd λh=>?_;rcases h with⟨h1,_⟩|⟨_,h2⟩
      . omega
      . rw[hL.1]at h2;omega
   refine⟨D2,m2,hcv.symm,hokv,⟨hinv,λi h=>by rw[hD2];exact .inl h,λi h=>m2low i (hold i h),λi h=>?_,by simp only;omega,hx.os,hx.tape,hx.output,hx.size,λk hk _=>hframe k hk,rfl,λi h hn=>.inl (hfr2 i h hn)⟩,hframe,hfr2⟩;rw[hD2]at h;rcases h with h|⟨j,hj,rfl,_⟩
   . exact .inl h
   . exact .inr (by omega)
 . exact e8.grown (o1:=⟨news.length,news,[]⟩) hl rfl
end
section
variable{P:Program}{T:fb}{cfg:cG}(g:xF P T cfg){S:aR}(hS:ak P cfg S)
include g hS
theorem xF.wsem{f:FuncId}{fn:Func}{c:Code}(hb:bh T f=some (fn,c)){args:List AV}(hlen:args.length<=1000){v:AV}{news:List aE}
 (h:bO P (cH cfg S) (Cw cfg ws) c (jH fn args ⟨0,[],[]⟩) λx=>∃r,vJ T (Cw cfg ws) fn x=some r/\Wk cfg (Cw cfg ws) 0 ⟨.node r.1 .nil .nil,1,r.2,[],none⟩ λs=>s.o=⟨news.length,news,[]⟩/\s.ts.get 0=v):bt P cfg f args ws v news:=by
 intro D m w hi hok;have hi':dV (cH cfg S) D m (Cw cfg ws) ⟨0,[],[]⟩ w:=dV.to (cfg:=cfg) (cfg':=cH cfg S) rfl rfl hi;refine .inl (GO g.tab hb hlen h hi' hok λr D' m' w' hr hv he=>?_);have he':dk cfg (Cw cfg ws) D m ⟨0,[],[]⟩ w D' m' r.2 w':=dk.to (cfg:=cH cfg S) (cfg':=cfg) rfl rfl he;have ht:TR D' m' ⟨.node r.1 .nil .nil,1,r.2,[],none⟩ ⟨#[aj m' r.1],[]⟩:=by
  refine⟨rfl,λt=>?_,λt=>?_,rfl,λd hd=>(by cases hd),λi hi=>(by cases hi)⟩
  . by_cases e:t=0
    . subst e;rfl
    . have h1:(Ts.node r.1 .nil .nil).get t=bo:=by
       rcases Nat.mod_two_eq_zero_or_one t with h2|h2
       . rw[Ts.get_even _ t e h2];exact Ts.get_nil _
       . rw[Ts.get_odd _ t e h2];exact Ts.get_nil _
      rw[h1,iW];simp[Array.getD,e]
  . by_cases e:t=0
    . subst e;exact hv
    . have h1:(Ts.node r.1 .nil .nil).get t=bo:=by
       rcases Nat.mod_two_eq_zero_or_one t with h2|h2
       . rw[Ts.get_even _ t e h2];exact Ts.get_nil _
       . rw[Ts.get_odd _ t e h2];exact Ts.get_nil _
      rw[h1];exact ik
 obtain⟨s,D2,m2,⟨ho,hvs⟩,h1,_,_,h4,h5⟩:=hr D' m' _ w' he'.inv ht;have hat:=h1.at' 0;have hok0:=h1.okt 0;rw[hvs]at hat hok0;refine⟨D2,m2,by rw[<-hat];rfl,hok0,?_⟩;have:=h5 D m ⟨0,[],[]⟩ w (Nat.le_refl _) hi.lt he';rw[ho]at this;exact this
end
end Go.Ev
