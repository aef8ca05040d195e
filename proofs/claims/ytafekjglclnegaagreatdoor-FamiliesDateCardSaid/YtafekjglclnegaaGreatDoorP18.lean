import Derived.Test.YtafekjglclnegaaGreatDoorP17
set_option linter.all false
namespace Go.Ev
open Go Go.RowKit
section
variable {cfg:Cfg} {C:Ctx} {st:St}
def lookR:List (Nat×Nat)->Nat->Option Nat
 | [],_=>none
 | p::ps,i=>bif Nat.beq p.1 i then some p.2 else lookR ps i
def mvN (b:Nat) (ρ:List (Nat×Nat)) (i:Nat):Option Nat:=bif natLt i b then some i else lookR ρ i
def mvL (f:AV->Option AV):List AV->Option (List AV)
 | []=>some []
 | v::vs=>ob (f v) fun v'=>ob (mvL f vs) fun vs'=>some (v'::vs')
def mvA (b:Nat) (ρ:List (Nat×Nat)):Nat->AV->Option AV
 | 0,_=>none
 | d+1,v=>match v with
   | .ptr id off=>ob (mvN b ρ id) fun i=>some (.ptr i off)
   | .slice id off len c=>ob (mvN b ρ id) fun i=>some (.slice i off len c)
   | .map id=>ob (mvN b ρ id) fun i=>some (.map i)
   | .yield id=>ob (mvN b ρ id) fun i=>some (.yield i)
   | .func f x y=>ob (mvL (mvA b ρ d) x) fun x'=>ob (mvL (mvA b ρ d) y) fun y'=>some (.func f x' y')
   | .iface t v=>ob (mvA b ρ d v) fun v'=>some (.iface t v')
   | .agg cs=>ob (mvL (mvA b ρ d) cs) fun cs'=>some (.agg cs')
   | .tuple cs=>ob (mvL (mvA b ρ d) cs) fun cs'=>some (.tuple cs')
   | v=>some v
def mvT (f:AV->Option AV):Ts->Option Ts
 | .nil=>some .nil
 | .node v l r=>ob (f v) fun v'=>ob (mvT f l) fun l'=>ob (mvT f r) fun r'=>some (.node v' l' r')
structure MvOK (b:Nat) (ρ:List (Nat×Nat)) (D D':Nat->Prop) (m m':Nat->Loc):Prop where
 low:∀i,D i->i<b->D' i/\m' i=m i
 mv:∀i j,lookR ρ i=some j->D i->D' j/\m' j=m i
theorem mvN_ok {b:Nat} {ρ:List (Nat×Nat)} {D D':Nat->Prop} {m m':Nat->Loc} (h:MvOK b ρ D D' m m') {i j:Nat} (hm:mvN b ρ i=some j) (hd:D i):D' j/\m' j=m i:=by
 unfold mvN at hm
 cases hb:natLt i b with
 | true=>
   rw [hb,cond_true,Option.some.injEq] at hm
   subst hm
   exact h.low i hd (natLt_iff.1 hb)
 | false=>rw [hb,cond_false] at hm;exact h.mv i j hm hd
section
variable {b:Nat} {ρ:List (Nat×Nat)} {D D':Nat->Prop} {m m':Nat->Loc} (h:MvOK b ρ D D' m m')
include h
theorem mvL_ok' {f:AV->Option AV} (hf:∀v v',f v=some v'->okV D m v->conc m' v'=conc m v/\okV D' m' v'):∀{vs vs':List AV},mvL f vs=some vs'->okL D m vs->concL m' vs'=concL m vs/\okL D' m' vs'
 | [],vs',hm,_=>by cases hm;exact ⟨by simp [concL],okL_nil⟩
 | v::vs,vs',hm,hok=>by
   simp only [mvL,ob_some,Option.some.injEq] at hm
   obtain ⟨v1,h1,vs1,h2,rfl⟩:=hm
   obtain ⟨a1,a2⟩:=okL_cons.1 hok
   obtain ⟨b1,b2⟩:=hf v v1 h1 a1
   obtain ⟨c1,c2⟩:=mvL_ok' hf h2 a2
   exact ⟨by simp [concL,b1,c1],okL_cons.2 ⟨b2,c2⟩⟩
theorem mvA_ok:∀{d:Nat} {v v':AV},mvA b ρ d v=some v'->okV D m v->conc m' v'=conc m v/\okV D' m' v'
 | 0,v,v',hm,_=>by cases hm
 | d+1,v,v',hm,hok=>by
   have ih:∀{vs vs':List AV},mvL (mvA b ρ d) vs=some vs'->okL D m vs->concL m' vs'=concL m vs/\okL D' m' vs':=fun h1 h2=>mvL_ok' h (fun v v' h1 h2=>mvA_ok h1 h2) h1 h2
   have one:∀{id j n:Nat},mvN b ρ id=some j->(D id/\n≤(m id).cap)->m' j=m id/\(D' j/\n≤(m' j).cap):=fun h1 h2=>by
    obtain ⟨x,y⟩:=mvN_ok h h1 h2.1
    exact ⟨y,x,by rw [y];exact h2.2⟩
   unfold mvA at hm
   cases v<;>simp only [ob_some,Option.some.injEq] at hm
   case ptr id off=>
    obtain ⟨j,hj,rfl⟩:=hm
    obtain ⟨e,hd⟩:=one hj (hok (id,0) (by simp [idsA]))
    exact ⟨by simp [conc,e],fun i hi=>by simp only [idsA,List.mem_singleton] at hi;subst hi;exact hd⟩
   case slice id off len c=>
    obtain ⟨j,hj,rfl⟩:=hm
    obtain ⟨e,hd⟩:=one hj (hok (id,needC len c) (by simp [idsA]))
    exact ⟨by simp [conc,e],fun i hi=>by simp only [idsA,List.mem_singleton] at hi;subst hi;exact hd⟩
   case map id=>
    obtain ⟨j,hj,rfl⟩:=hm
    obtain ⟨e,hd⟩:=one hj (hok (id,0) (by simp [idsA]))
    exact ⟨by simp [conc,e],fun i hi=>by simp only [idsA,List.mem_singleton] at hi;subst hi;exact hd⟩
   case yield id=>
    obtain ⟨j,hj,rfl⟩:=hm
    obtain ⟨e,hd⟩:=one hj (hok (id,0) (by simp [idsA]))
    exact ⟨by simp [conc,e],fun i hi=>by simp only [idsA,List.mem_singleton] at hi;subst hi;exact hd⟩
   case func f x y=>
    obtain ⟨x',hx,y',hy,rfl⟩:=hm
    obtain ⟨a1,a2⟩:=ih hx (fun i hi=>hok i (by simp [idsA,hi]))
    obtain ⟨b1,b2⟩:=ih hy (fun i hi=>hok i (by simp [idsA,hi]))
    refine ⟨by simp [conc,a1,b1],fun i hi=>?_⟩
    simp only [idsA,List.mem_append] at hi
    exact hi.elim (a2 i) (b2 i)
   case iface t u=>
    obtain ⟨u',hu,rfl⟩:=hm
    obtain ⟨a1,a2⟩:=mvA_ok hu (fun i hi=>hok i (by simpa [idsA] using hi))
    exact ⟨by simp [conc,a1],fun i hi=>a2 i (by simpa [idsA] using hi)⟩
   case agg cs=>
    obtain ⟨x',hx,rfl⟩:=hm
    obtain ⟨a1,a2⟩:=ih hx (okV_agg.1 hok)
    exact ⟨by simp [conc,a1],okV_agg.2 a2⟩
   case tuple cs=>
    obtain ⟨x',hx,rfl⟩:=hm
    obtain ⟨a1,a2⟩:=ih hx (okV_tuple.1 hok)
    exact ⟨by simp [conc,a1],okV_tuple.2 a2⟩
   all_goals subst hm;exact ⟨by simp [conc],okV_none (by simp [idsA])⟩
theorem mvL_ok {d:Nat} {vs vs':List AV} (h1:mvL (mvA b ρ d) vs=some vs') (h2:okL D m vs):concL m' vs'=concL m vs/\okL D' m' vs':=mvL_ok' h (fun v v' h1 h2=>mvA_ok h h1 h2) h1 h2
end
theorem mvT_get {f:AV->Option AV} (hu:f undefA=some undefA):∀{t t':Ts} (i:Nat),mvT f t=some t'->f (t.get i)=some (t'.get i)
 | .nil,t',i,h=>by cases h;rw [Ts.get_nil];exact hu
 | .node v l r,t',i,h=>by
   simp only [mvT,ob_some,Option.some.injEq] at h
   obtain ⟨v',hv,l',hl,r',hr,rfl⟩:=h
   by_cases h0:i=0
   · subst h0;exact hv
   · rcases Nat.mod_two_eq_zero_or_one i with h2|h2
     · rw [Ts.get_even _ i h0 h2,Ts.get_even _ i h0 h2];exact mvT_get hu _ hr
     · rw [Ts.get_odd _ i h0 h2,Ts.get_odd _ i h0 h2];exact mvT_get hu _ hl
def LowO (b:Nat) (x:AObj):Prop:=noLoop x=true/\∀i∈idsO x,i.1<b
def MvO (b:Nat) (ρ:List (Nat×Nat)) (x x':AObj):Prop:=(x'=x/\LowO b x)∨∃cs cs' rw g,x=.cells cs rw g/\mvL (mvA b ρ 20) cs=some cs'/\x'=.cells cs' rw g
theorem low_rel {b:Nat} {ρ:List (Nat×Nat)} {D D':Nat->Prop} {m m':Nat->Loc} (h:MvOK b ρ D D' m m') {l:Loc} {x:AObj} {o:Option Obj} (hr:ObjRel D m l x o) (hx:LowO b x):ObjRel D' m' l x o:=by
 have lv:∀v,okV D m v->(∀i∈idsA v,i.1<b)->conc m' v=conc m v/\okV D' m' v:=fun v hv hb=>by
  have hs:∀i∈idsA v,D' i.1/\m' i.1=m i.1:=fun i hi=>h.low i.1 (hv i hi).1 (hb i hi)
  exact ⟨conc_congr v fun i hi=>(hs i hi).2,fun i hi=>⟨(hs i hi).1,by rw [(hs i hi).2];exact (hv i hi).2⟩⟩
 cases x with
 | dead=>trivial
 | cells cs rw g=>
   obtain ⟨c,e,fz,hb,hc⟩:=hr
   have hv:∀v∈cs,conc m' v=conc m v/\okV D' m' v:=fun v hv=>lv v (okL_iff.1 hc.okc v hv) fun i hi=>hx.2 i (mem_idsL.2 ⟨v,hv,hi⟩)
   exact ⟨c,e,fz,hb,⟨fun i v hi=>by rw [hc.at' i v hi,(hv v (List.mem_of_getElem? hi)).1],okL_iff.2 fun v hm=>(hv v hm).2,hc.free,hc.grow⟩⟩
 | map es=>
   obtain ⟨en,ck,hb,he,ho⟩:=hr
   have hv:∀e∈es,(conc m' e.1=conc m e.1/\okV D' m' e.1)/\(conc m' e.2=conc m e.2/\okV D' m' e.2):=fun e hm=>
    ⟨lv e.1 (ho e hm).1 fun i hi=>hx.2 i (List.mem_append.2 (.inl (mem_idsL.2 ⟨e.1,List.mem_map.2 ⟨e,hm,rfl⟩,hi⟩))),lv e.2 (ho e hm).2 fun i hi=>hx.2 i (List.mem_append.2 (.inr (mem_idsL.2 ⟨e.2,List.mem_map.2 ⟨e,hm,rfl⟩,hi⟩)))⟩
   exact ⟨en,ck,hb,he.trans (List.map_congr_left fun e hm=>by rw [(hv e hm).1.1,(hv e hm).2.1]),fun e hm=>⟨(hv e hm).1.2,(hv e hm).2.2⟩⟩
 | siter s p=>exact hr
 | loop r=>exact absurd hx.1 (by simp [noLoop])
 | defs=>exact hr
theorem mvO_rel {b:Nat} {ρ:List (Nat×Nat)} {D D':Nat->Prop} {m m':Nat->Loc} (h:MvOK b ρ D D' m m') {l:Loc} {x x':AObj} {o:Option Obj} (hr:ObjRel D m l x o) (hx:MvO b ρ x x'):ObjRel D' m' l x' o:=by
 rcases hx with ⟨rfl,hl⟩|⟨cs,cs',rw',g,rfl,hm,rfl⟩
 · exact low_rel h hr hl
 · obtain ⟨c,e,fz,hb,hc⟩:=hr
   obtain ⟨h1,h2⟩:=mvL_ok h hm hc.okc
   refine ⟨c,e,fz,hb,⟨fun i v hi=>?_,h2,hc.free,hc.grow⟩⟩
   have e2:(concL m cs)[i]? = some (conc m' v):=by rw [←h1,concL_map,List.getElem?_map,hi];rfl
   rw [concL_map,List.getElem?_map] at e2
   obtain ⟨u,hu,e3⟩:=Option.map_eq_some_iff.1 e2
   rw [hc.at' i u hu,e3]
theorem mvO_live {b:Nat} {ρ:List (Nat×Nat)} {x x':AObj} (hx:MvO b ρ x x'):live x'=live x/\rwO x'=rwO x:=by
 rcases hx with ⟨rfl,_⟩|⟨cs,cs',rw',g,rfl,_,rfl⟩
 · exact ⟨rfl,rfl⟩
 · exact ⟨rfl,rfl⟩
def LowC (C:Ctx):Prop:=∀id,id<C.lo->LowO C.lo (getB C.B id)
def pairs (lo:Nat):Nat->List Nat->List (Nat×Nat)
 | _,[]=>[]
 | j,s::ss=>(lo+s,lo+j)::pairs lo (j+1) ss
theorem pairs_look {lo:Nat}:∀{ss:List Nat} {j i k:Nat},lookR (pairs lo j ss) i=some k->∃t,t<ss.length/\i=lo+ss.getD t 0/\k=lo+(j+t)
 | [],j,i,k,h=>by cases h
 | s::ss,j,i,k,h=>by
   rw [pairs,lookR] at h
   by_cases e:lo+s=i
   · rw [beqT e,cond_true,Option.some.injEq] at h
     exact ⟨0,by simp,by simp [e],by simp [←h]⟩
   · rw [beqF e,cond_false] at h
     obtain ⟨t,h1,h2,h3⟩:=pairs_look h
     exact ⟨t+1,by simpa using h1,by simpa using h2,by omega⟩
theorem wk_move (hK:CfgOK cfg) {kb:Nat} {sel:List Nat} {ts':Ts} {o':Own} (hlow:LowC C) (hkb:kb≤st.o.n)
 (hsel:∀s∈sel,kb≤s/\s<st.o.n) (hnd:sel.Nodup)
 (hle:∀p∈st.o.le,LowO (C.lo+kb) p.2) (hle':o'.le=st.o.le) (hn:o'.n=kb+sel.length) (hlen:o'.os.length=o'.n)
 (hold:∀i,i<kb->o'.at i=st.o.at i/\LowO (C.lo+kb) (st.o.at i))
 (hnew:∀t,t<sel.length->MvO (C.lo+kb) (pairs C.lo kb sel) (st.o.at (sel.getD t 0)) (o'.at (kb+t)))
 (hts:mvT (mvA (C.lo+kb) (pairs C.lo kb sel) 20) st.ts=some ts') (hds:∀d∈st.ds,d<C.lo+kb) (hro:∀i,st.ro=some i->i<C.lo+kb) :
 Wk cfg C kb st fun s=>s=⟨ts',st.tn,o',st.ds,st.ro⟩:=by
 intro D m a w hi ht
 obtain ⟨D',hD'⟩:∃D':Nat->Prop,D'=fun id=>(id<C.lo+kb/\D id)∨∃t,t<sel.length/\id=C.lo+kb+t/\D (C.lo+sel.getD t 0):=⟨_,rfl⟩
 obtain ⟨m',hm'⟩:∃m':Nat->Loc,m'=fun id=>if id<C.lo+kb then m id else m (C.lo+sel.getD (id-(C.lo+kb)) 0):=⟨_,rfl⟩
 have mlow:∀i,i<C.lo+kb->m' i=m i:=fun i h=>by rw [hm'];simp [h]
 have mnew:∀t,m' (C.lo+kb+t)=m (C.lo+sel.getD t 0):=fun t=>by
  rw [hm']
  simp only [if_neg (by omega:¬C.lo+kb+t<C.lo+kb)]
  rw [show C.lo+kb+t-(C.lo+kb)=t by omega]
 have ok:MvOK (C.lo+kb) (pairs C.lo kb sel) D D' m m':=by
  refine ⟨fun i hd hlt=>⟨by rw [hD'];exact .inl ⟨hlt,hd⟩,mlow i hlt⟩,fun i j hl hd=>?_⟩
  obtain ⟨t,h1,rfl,rfl⟩:=pairs_look hl
  rw [show C.lo+(kb+t)=C.lo+kb+t by omega]
  exact ⟨by rw [hD'];exact .inr ⟨t,h1,rfl,hd⟩,mnew t⟩
 have hselt:∀t,t<sel.length->kb≤sel.getD t 0/\sel.getD t 0<st.o.n:=fun t h=>hsel _ (by simp [List.getD_eq_getElem?_getD,h])
 have glow:∀i,i<C.lo+kb->get C o' i=get C st.o i/\LowO (C.lo+kb) (get C st.o i):=fun i h=>by
  unfold get getB
  by_cases hc:C.lo≤i
  · rw [ble_iff.2 hc,cond_true,cond_true]
    exact hold (i-C.lo) (by omega)
  · rw [bleF hc,cond_false,cond_false,hle']
    refine ⟨rfl,?_⟩
    simp only
    have lw:LowO (C.lo+kb) (getB C.B i):=⟨(hlow i (by omega)).1,fun j hj=>by have:=(hlow i (by omega)).2 j hj;omega⟩
    cases hx:leAt st.o.le i with
    | none=>exact lw
    | some x=>
      have:∀le:List (Nat×AObj),leAt le i=some x->∃p∈le,p.2=x:=by
       intro le
       induction le with
       | nil=>intro h;cases h
       | cons p le ih=>
         intro h
         rw [leAt] at h
         by_cases e:p.1=i
         · rw [beqT e,cond_true,Option.some.injEq] at h;exact ⟨p,List.mem_cons_self,h⟩
         · rw [beqF e,cond_false] at h
           obtain ⟨q,hq,e'⟩:=ih h
           exact ⟨q,List.mem_cons_of_mem _ hq,e'⟩
      obtain ⟨p,hp,e⟩:=this _ hx
      rw [←e];exact hle p hp
 have gnew:∀t,t<sel.length->MvO (C.lo+kb) (pairs C.lo kb sel) (get C st.o (C.lo+sel.getD t 0)) (get C o' (C.lo+kb+t)):=fun t h=>by
  unfold get getB
  rw [ble_iff.2 (by omega:C.lo≤C.lo+sel.getD t 0),ble_iff.2 (by omega:C.lo≤C.lo+kb+t),cond_true,cond_true,show C.lo+sel.getD t 0-C.lo=sel.getD t 0 by omega,show C.lo+kb+t-C.lo=kb+t by omega]
  exact hnew t h
 have inj:∀t u,t<sel.length->u<sel.length->sel.getD t 0=sel.getD u 0->t=u:=fun t u h1 h2 e=>by
  have hp:=List.pairwise_iff_getElem.1 hnd
  have e':sel[t]=sel[u]:=by simpa [List.getD_eq_getElem?_getD,h1,h2] using e
  rcases Nat.lt_trichotomy t u with h|h|h
  · exact absurd e' (hp t u h1 h2 h)
  · exact h
  · exact absurd e'.symm (hp u t h2 h1 h)
 have src:∀i,D' i->∃j,D j/\m' i=m j/\live (get C o' i)=live (get C st.o j)/\rwO (get C o' i)=rwO (get C st.o j)/\((i<C.lo+kb/\j=i)∨∃t,t<sel.length/\i=C.lo+kb+t/\j=C.lo+sel.getD t 0):=fun i h=>by
  rw [hD'] at h
  rcases h with ⟨h1,h2⟩|⟨t,h1,rfl,h2⟩
  · exact ⟨i,h2,mlow i h1,by rw [(glow i h1).1],by rw [(glow i h1).1],.inl ⟨h1,rfl⟩⟩
  · have:=mvO_live (gnew t h1)
    exact ⟨_,h2,mnew t,this.1,this.2,.inr ⟨t,h1,rfl,rfl⟩⟩
 have hinv:Inv cfg D' m' C o' w:=by
  refine ⟨fun i hd=>?_,fun i j hdi hdj hij hl hr=>?_,fun i hd=>?_,fun g hg=>?_,fun i hid=>?_,fun i hid=>hi.le i (by rw [hle'] at hid;exact hid),hi.lo,hlen⟩
  · rw [hD'] at hd
    rcases hd with ⟨h1,h2⟩|⟨t,h1,rfl,h2⟩
    · rw [mlow i h1,(glow i h1).1];exact low_rel ok (hi.obj i h2) (glow i h1).2
    · rw [mnew t];exact mvO_rel ok (hi.obj _ h2) (gnew t h1)
  · obtain ⟨i',di,ei,li,ri,ci⟩:=src i hdi
    obtain ⟨j',dj,ej,lj,rj,cj⟩:=src j hdj
    rw [ei,ej]
    refine hi.inj i' j' di dj (fun e=>hij ?_) (by rw [←li];exact hl) (by rw [←rj];exact hr)
    rcases ci with ⟨c1,rfl⟩|⟨t,c1,rfl,rfl⟩<;>rcases cj with ⟨d1,rfl⟩|⟨u,d1,rfl,rfl⟩
    · exact e
    · have:=hselt u d1;omega
    · have:=hselt t c1;omega
    · have:=inj t u c1 d1 (by omega);omega
  · rw [hD'] at hd
    rcases hd with ⟨h1,h2⟩|⟨t,h1,rfl,h2⟩<;>omega
  · obtain ⟨a1,a2,a3⟩:=hi.glob g hg
    have hlt:g<C.lo+kb:=by have:=hK.G;have:=hi.lo;omega
    exact ⟨by rw [hD'];exact .inl ⟨hlt,a1⟩,by rw [mlow g hlt];exact a2,by rw [mlow g hlt];exact a3⟩
  · obtain ⟨a1,a2⟩:=hi.root i hid
    have hlt:i<C.lo+kb:=by have:=hi.lo;omega
    exact ⟨by rw [hD'];exact .inl ⟨hlt,a1⟩,by rw [(glow i hlt).1];exact a2⟩
 refine ⟨_,D',m',rfl,⟨ht.size,fun t=>?_,fun t=>?_,?_,fun d hd=>by rw [hD'];exact .inl ⟨hds d hd,ht.dsD d hd⟩,fun i h=>by rw [hD'];exact .inl ⟨hro i h,ht.roD i h⟩⟩,rfl,?_,hinv,fun D0 m0 o0 w0 ho hl he=>?_⟩
 · have:=mvT_get (f:=mvA (C.lo+kb) (pairs C.lo kb sel) 20) rfl t hts
   rw [ht.at' t];exact (mvA_ok ok this (ht.okt t)).1.symm
 · have:=mvT_get (f:=mvA (C.lo+kb) (pairs C.lo kb sel) 20) rfl t hts
   exact (mvA_ok ok this (ht.okt t)).2
 · rw [ht.defers]
   exact List.map_congr_left fun d hd=>by rw [mlow d (hds d hd)]
 · cases hr:st.ro with
   | none=>rfl
   | some i=>simp only [roB,Option.map_some,mlow i (hro i hr)]
 · have low0:∀i,D0 i->i<C.lo+kb:=fun i h=>by have:=hl i h;omega
   refine ⟨hinv,fun i h=>by rw [hD'];exact .inl ⟨low0 i h,he.sub i h⟩,fun i h=>by rw [mlow i (low0 i h)];exact he.same i h,fun i h=>?_,by simp only;omega,he.os,he.tape,he.output,he.size,he.frame,by simp only [hle'];exact he.leIds,fun i h hn=>?_⟩
   · rw [hD'] at h
     rcases h with ⟨h1,h2⟩|⟨t,h1,rfl,h2⟩
     · exact he.new i h2
     · exact .inr (by omega)
   · rw [hD'] at h
     rcases h with ⟨h1,h2⟩|⟨t,h1,rfl,h2⟩
     · rw [mlow i h1];exact he.fresh i h2 hn
     · rw [mnew t]
       have:=hselt t h1
       exact he.fresh _ h2 fun h0=>by have:=hl _ h0;omega
end
def Cw (cfg:Cfg) (ws:List AObj):Ctx:=⟨[(cfg.root.n,⟨ws.length,ws.reverse,[]⟩),(0,cfg.root)],cfg.root.n+ws.length⟩
structure Can where
 szs:List Nat
 ws:List AObj
 ok:Bool
def capCan:Cap->Cap
 | .known c=>.known c
 | .rest _=>.rest 0
def canL (f:AV->Can->Option (AV×Can)):List AV->Can->Option (List AV×Can)
 | [],q=>some ([],q)
 | v::vs,q=>ob (f v q) fun p=>ob (canL f vs p.2) fun p'=>some (p.1::p'.1,p'.2)
def winOf (cs:List AV) (off n:Nat):List AV:=(cs.drop off).take n
def canA (r:Nat) (C:Ctx) (o:Own):Nat->AV->Can->Option (AV×Can)
 | 0,_,_=>none
 | d+1,v,q=>match v with
   | .slice id off len c=>(match q.szs with
     | []=>none
     | sz::szs=>ob (cellsOf (get C o id)) fun cs=>some (.slice (r+q.ws.length) 0 len (capCan c),⟨szs,q.ws++[.cells (winOf cs off (len*sz)) false none],q.ok&&(Nat.ble (off+len*sz) cs.length&&belowL r (winOf cs off (len*sz)))⟩))
   | .agg cs=>ob (canL (canA r C o d) cs q) fun p=>some (.agg p.1,p.2)
   | .func f a b=>ob (canL (canA r C o d) a q) fun p=>ob (canL (canA r C o d) b p.2) fun p'=>some (.func f p.1 p'.1,p'.2)
   | .iface t v=>ob (canA r C o d v q) fun p=>some (.iface t p.1,p.2)
   | .ptr id off=>ok (natLt id r) (some (.ptr id off,q))
   | .tuple _=>none
   | .map _=>none
   | .yield _=>none
   | v=>some (v,q)
def ups (b b':Nat):Nat->List (Nat×Nat)
 | 0=>[]
 | n+1=>(b+n,b'+n)::ups b b' n
abbrev WSum:Type:=List AV->List AObj->Option (Tr (AV×List AObj))
def winR (r b:Nat) (C:Ctx) (o:Own) (x:AV×List AObj):Tr (AV×Own):=
 liftK (mvA r (ups b (C.lo+o.n) x.2.length) 20 x.1) fun v=>.ret (v,⟨x.2.length+o.n,x.2++o.os,o.le⟩)
def winS (r:Nat) (szs:List Nat) (e:WSum):GSum:=fun C args o=>
 ob (canL (canA r C o 20) args ⟨szs,[],true⟩) fun q=>ob (e q.1 q.2.ws) fun t=>some (asrt q.2.ok (t.bind (winR r (r+q.2.ws.length) C o)))
def FactW (P:Program) (cfg:Cfg) (f:FuncId) (args:List AV) (ws:List AObj) (v:AV) (news:List AObj):Prop:=
 ∀D m w,Inv cfg D m (Cw cfg ws) ⟨0,[],[]⟩ w->okL D m args->CallS P f (concL m args).toArray w fun V w'=>∃D' m',V=conc m' v/\okV D' m' v/\Ext cfg (Cw cfg ws) D m ⟨0,[],[]⟩ w D' m' ⟨news.length,news,[]⟩ w'
def WinOK (P:Program) (cfg:Cfg) (f:FuncId) (e:WSum):Prop:=∀args ws t r,e args ws=some t->t.run=some r->FactW P cfg f args ws r.1 r.2/\∀x∈r.2,LowO cfg.root.n x
theorem ups_look {b b':Nat}:∀{n i k:Nat},lookR (ups b b' n) i=some k->∃j,j<n/\i=b+j/\k=b'+j
 | 0,i,k,h=>by cases h
 | n+1,i,k,h=>by
   rw [ups,lookR] at h
   by_cases e:b+n=i
   · rw [beqT e,cond_true,Option.some.injEq] at h
     exact ⟨n,by omega,e.symm,h.symm⟩
   · rw [beqF e,cond_false] at h
     obtain ⟨j,h1,h2,h3⟩:=ups_look h
     exact ⟨j,by omega,h2,h3⟩
section
variable {cfg:Cfg} {C:Ctx} {o:Own} {D:Nat->Prop} {m:Nat->Loc} {w:World}
def mL (r:Nat) (m:Nat->Loc) (L:List Loc) (id:Nat):Loc:=if id<r then m id else L.getD (id-r) ⟨0,0,0⟩
def DL (r:Nat) (D:Nat->Prop) (L:List Loc) (id:Nat):Prop:=(id<r/\D id)∨(r≤id/\id<r+L.length)
theorem mL_low {r:Nat} {L:List Loc} {id:Nat} (h:id<r):mL r m L id=m id:=if_pos h
theorem mL_at {r:Nat} {L:List Loc} {j:Nat} {l:Loc} (h:L[j]? = some l):mL r m L (r+j)=l:=by
 unfold mL
 rw [if_neg (by omega),show r+j-r=j by omega,List.getD_eq_getElem?_getD,h];rfl
def WRel (r:Nat) (D:Nat->Prop) (m:Nat->Loc) (w:World) (x:AObj) (l:Loc):Prop:=
 ∃win,x=.cells win false none/\belowL r win=true/\okL D m win/\∃c e fz,w.heap[l.blk]? = some (.cells c e fz)/\∀i v,win[i]? = some v->c[l.base+i]? = some (conc m v)
def WOK (r:Nat) (D:Nat->Prop) (m:Nat->Loc) (w:World) (L:List Loc) (ws:List AObj):Prop:=L.length=ws.length/\∀(j:Nat) (x:AObj) (l:Loc),ws[j]? = some x->L[j]? = some l->WRel r D m w x l
theorem WOK.push {r:Nat} {L:List Loc} {ws:List AObj} {x:AObj} {l:Loc} (h:WOK r D m w L ws) (hx:WRel r D m w x l):WOK r D m w (L++[l]) (ws++[x]):=by
 refine ⟨by simp [h.1],fun j y k hy hk=>?_⟩
 by_cases e:j<ws.length
 · rw [List.getElem?_append_left e] at hy
   rw [List.getElem?_append_left (by rw [h.1];exact e)] at hk
   exact h.2 j y k hy hk
 · rw [List.getElem?_append_right (by omega)] at hy
   rw [List.getElem?_append_right (by rw [h.1];omega)] at hk
   have hj:j-ws.length=0:=by
    have:=(List.getElem?_eq_some_iff.1 hy).1
    simp at this;omega
   rw [hj] at hy
   rw [show j-L.length=0 by rw [h.1];exact hj] at hk
   simp only [List.getElem?_cons_zero,Option.some.injEq] at hy hk
   rw [←hy,←hk];exact hx
def CanOK (r:Nat) (D:Nat->Prop) (m:Nat->Loc) (w:World) (L:List Loc) (q q':Can) (S:List Loc->Prop):Prop:=
 ∃L',q.ok=true/\WOK r D m w (L++L') q'.ws/\∀L'',S ((L++L')++L'')
section
variable (hi:Inv cfg D m C o w)
include hi
theorem canL_ok {d:Nat} (ih:∀{v q v' q'},canA cfg.root.n C o d v q=some (v',q')->okV D m v->q'.ok=true->∀L,WOK cfg.root.n D m w L q.ws->CanOK cfg.root.n D m w L q q' fun K=>conc (mL cfg.root.n m K) v'=conc m v/\okV (DL cfg.root.n D K) (mL cfg.root.n m K) v') :
 ∀{vs:List AV} {q:Can} {vs':List AV} {q':Can},canL (canA cfg.root.n C o d) vs q=some (vs',q')->okL D m vs->q'.ok=true->∀L,WOK cfg.root.n D m w L q.ws->CanOK cfg.root.n D m w L q q' fun K=>concL (mL cfg.root.n m K) vs'=concL m vs/\okL (DL cfg.root.n D K) (mL cfg.root.n m K) vs'
 | [],q,vs',q',h,_,hq,L,hL=>by
   cases h
   exact ⟨[],hq,by simpa using hL,fun L''=>⟨by simp [concL],okL_nil⟩⟩
 | v::vs,q,vs',q',h,hok,hq,L,hL=>by
   simp only [canL,ob_some,Option.some.injEq,Prod.mk.injEq] at h
   obtain ⟨⟨v1,q1⟩,h1,⟨vs1,q2⟩,h2,rfl,rfl⟩:=h
   obtain ⟨a1,a2⟩:=okL_cons.1 hok
   have hq1:q1.ok=true:=by
    have mono:∀{d:Nat} {v:AV} {q:Can} {r:AV×Can},canA cfg.root.n C o d v q=some r->r.2.ok=true->q.ok=true:=by
     intro d
     induction d with
     | zero=>intro v q r h;cases h
     | succ d ihd=>
       have hl:∀{vs:List AV} {q:Can} {r:List AV×Can},canL (canA cfg.root.n C o d) vs q=some r->r.2.ok=true->q.ok=true:=by
        intro vs
        induction vs with
        | nil=>intro q r h hr;cases h;exact hr
        | cons v vs ihv=>
          intro q r h hr
          simp only [canL,ob_some,Option.some.injEq] at h
          obtain ⟨p,hp,p',hp',rfl⟩:=h
          exact ihd hp (ihv hp' hr)
       intro v q r h hr
       unfold canA at h
       cases v<;>simp only [ob_some,ok_some,Option.some.injEq,reduceCtorEq] at h
       case slice id off len c=>
        split at h
        · cases h
        · simp only [ob_some,Option.some.injEq] at h
          obtain ⟨cs,_,rfl⟩:=h
          simp only [Bool.and_eq_true] at hr
          exact hr.1
       case agg cs=>obtain ⟨p,hp,rfl⟩:=h;exact hl hp hr
       case func f a b=>obtain ⟨p,hp,p',hp',rfl⟩:=h;exact hl hp (hl hp' hr)
       case iface t v=>obtain ⟨p,hp,rfl⟩:=h;exact ihd hp hr
       case ptr=>obtain ⟨_,rfl⟩:=h;exact hr
       all_goals (subst h;exact hr)
    have monoL:∀{vs:List AV} {q:Can} {r:List AV×Can},canL (canA cfg.root.n C o d) vs q=some r->r.2.ok=true->q.ok=true:=by
     intro vs
     induction vs with
     | nil=>intro q r h hr;cases h;exact hr
     | cons v vs ihv=>
       intro q r h hr
       simp only [canL,ob_some,Option.some.injEq] at h
       obtain ⟨p,hp,p',hp',rfl⟩:=h
       exact mono hp (ihv hp' hr)
    exact monoL h2 hq
   obtain ⟨L1,b1,b2,b3⟩:=ih h1 a1 hq1 L hL
   obtain ⟨L2,c1,c2,c3⟩:=canL_ok ih h2 a2 hq _ b2
   refine ⟨L1++L2,b1,by rw [←List.append_assoc];exact c2,fun L''=>?_⟩
   have x:=b3 (L2++L'')
   have y:=c3 L''
   rw [show L++L1++(L2++L'')=L++(L1++L2)++L'' by simp] at x
   rw [show L++L1++L2++L''=L++(L1++L2)++L'' by simp] at y
   exact ⟨by simp only [concL];rw [x.1,y.1],okL_cons.2 ⟨x.2,y.2⟩⟩
theorem canA_ok:∀{d:Nat} {v:AV} {q:Can} {v':AV} {q':Can},canA cfg.root.n C o d v q=some (v',q')->okV D m v->q'.ok=true->∀L,WOK cfg.root.n D m w L q.ws->CanOK cfg.root.n D m w L q q' fun K=>conc (mL cfg.root.n m K) v'=conc m v/\okV (DL cfg.root.n D K) (mL cfg.root.n m K) v'
 | 0,v,q,v',q',h,_,_,L,hL=>by cases h
 | d+1,v,q,v',q',h,hok,hq,L,hL=>by
   have ihL:=@canL_ok cfg C o D m w hi d (fun {v q v' q'}=>canA_ok (d:=d) (v:=v) (q:=q) (v':=v') (q':=q'))
   unfold canA at h
   cases v<;>simp only [ob_some,ok_some,Option.some.injEq,reduceCtorEq,Prod.mk.injEq] at h
   case slice id off len c=>
    split at h
    · cases h
    · rename_i sz szs hsz
      simp only [ob_some,Option.some.injEq,Prod.mk.injEq] at h
      obtain ⟨cs,hcs,rfl,rfl⟩:=h
      simp only [Bool.and_eq_true,ble_iff] at hq
      obtain ⟨hq1,hle,hbl⟩:=hq
      obtain ⟨hD,hcap⟩:=hok (id,needC len c) (by simp [idsA])
      have hobj:=hi.obj id hD
      obtain ⟨rw',g,hg⟩:∃rw' g,get C o id=.cells cs rw' g:=by
       unfold cellsOf at hcs
       split at hcs
       · rename_i cs' rw' g hgg;cases hcs;exact ⟨_,_,hgg⟩
       · cases hcs
      rw [hg] at hobj
      obtain ⟨cc,e,fz,hb,hc⟩:=hobj
      have win_at:∀i v,(winOf cs off (len*sz))[i]? = some v->cs[off+i]? = some v:=fun i v hv=>by
       unfold winOf at hv
       rw [List.getElem?_take] at hv
       split at hv
       · rw [List.getElem?_drop] at hv;exact hv
       · cases hv
      let l:Loc:=⟨(m id).blk,(m id).base+off,match c with|.known _=>0|.rest k=>(m id).cap-k⟩
      have hW:WRel cfg.root.n D m w (.cells (winOf cs off (len*sz)) false none) l:=
       ⟨_,rfl,hbl,okL_iff.2 fun v hv=>by
        obtain ⟨i,hi'⟩:=List.getElem?_of_mem hv
        exact okL_iff.1 hc.okc v (List.mem_of_getElem? (win_at i v hi')),cc,e,fz,hb,fun i v hv=>by
        have:=hc.at' _ v (win_at i v hv)
        rw [show l.base+i=(m id).base+(off+i) by simp only [l];omega];exact this⟩
      refine ⟨[l],hq1,hL.push hW,fun L''=>?_⟩
      have hj:((L++[l])++L'')[q.ws.length]? = some l:=by
       rw [List.append_assoc,List.getElem?_append_right (Nat.le_of_eq hL.1),hL.1];simp
      refine ⟨?_,fun i hi'=>?_⟩
      · simp only [conc,mL_at hj]
        cases c with
        | known n=>simp [capCan,capC,l]
        | rest k=>simp [capCan,capC,l]
      · simp only [idsA,List.mem_singleton] at hi'
        subst hi'
        refine ⟨.inr ⟨by simp only;omega,by simp only [List.length_append,hL.1,List.length_cons,List.length_nil];omega⟩,?_⟩
        simp only [mL_at hj]
        cases c with
        | known n=>simp [capCan,needC]
        | rest k=>simp only [capCan,needC,l];simp only [needC] at hcap;omega
   case agg cs=>
    obtain ⟨⟨vs',q1⟩,h1,rfl,rfl⟩:=h
    obtain ⟨L',x1,x2,x3⟩:=ihL h1 (okV_agg.1 hok) hq L hL
    exact ⟨L',x1,x2,fun L''=>⟨by simp only [conc];rw [(x3 L'').1],okV_agg.2 (x3 L'').2⟩⟩
   case func f a b=>
    obtain ⟨⟨a',q1⟩,h1,⟨b',q2⟩,h2,rfl,rfl⟩:=h
    have hcat:canL (canA cfg.root.n C o d) (a++b) q=some (a'++b',q2):=by
     have:∀{xs:List AV} {q q1 q2:Can} {xs':List AV},canL (canA cfg.root.n C o d) xs q=some (xs',q1)->canL (canA cfg.root.n C o d) b q1=some (b',q2)->canL (canA cfg.root.n C o d) (xs++b) q=some (xs'++b',q2):=by
      intro xs
      induction xs with
      | nil=>intro q q1 q2 xs' h1 h2;cases h1;exact h2
      | cons x xs ih=>
        intro q q1 q2 xs' h1 h2
        simp only [canL,ob_some,Option.some.injEq,Prod.mk.injEq] at h1
        obtain ⟨p,hp,⟨ys,q3⟩,hp',rfl,rfl⟩:=h1
        simp only [List.cons_append,canL,hp,ob,ih hp' h2]
     exact this h1 h2
    obtain ⟨L',x1,x2,x3⟩:=ihL hcat (okL_append.2 ⟨fun i hi'=>hok i (by simp [idsA,hi']),fun i hi'=>hok i (by simp [idsA,hi'])⟩) hq L hL
    refine ⟨L',x1,x2,fun L''=>?_⟩
    obtain ⟨y1,y2⟩:=x3 L''
    have hlen:a'.length=a.length:=by
     have:∀{xs:List AV} {q:Can} {r:List AV×Can},canL (canA cfg.root.n C o d) xs q=some r->r.1.length=xs.length:=by
      intro xs
      induction xs with
      | nil=>intro q r h;cases h;rfl
      | cons x xs ih=>
        intro q r h
        simp only [canL,ob_some,Option.some.injEq] at h
        obtain ⟨p,_,p',hp',rfl⟩:=h
        simp [ih hp']
     exact this h1
    rw [concL_app,concL_app] at y1
    obtain ⟨z1,z2⟩:=List.append_inj y1 (by rw [concL_len,concL_len,hlen])
    obtain ⟨u1,u2⟩:=okL_append.1 y2
    refine ⟨by simp only [conc];rw [z1,z2],fun i hi'=>?_⟩
    simp only [idsA,List.mem_append] at hi'
    exact hi'.elim (u1 i) (u2 i)
   case iface t u=>
    obtain ⟨⟨u',q1⟩,h1,rfl,rfl⟩:=h
    obtain ⟨L',x1,x2,x3⟩:=canA_ok h1 (fun i hi'=>hok i (by simpa [idsA] using hi')) hq L hL
    exact ⟨L',x1,x2,fun L''=>⟨by simp only [conc];rw [(x3 L'').1],fun i hi'=>(x3 L'').2 i (by simpa [idsA] using hi')⟩⟩
   case ptr id off=>
    obtain ⟨h1,rfl,rfl⟩:=h
    rw [natLt_iff] at h1
    refine ⟨[],hq,by simpa using hL,fun L''=>⟨by simp only [conc,mL_low h1],fun i hi'=>?_⟩⟩
    simp only [idsA,List.mem_singleton] at hi'
    subst hi'
    exact ⟨.inl ⟨h1,(hok (id,0) (by simp [idsA])).1⟩,by simp⟩
   all_goals
    obtain ⟨rfl,rfl⟩:=h
    exact ⟨[],hq,by simpa using hL,fun L''=>⟨by simp [conc],okV_none (by simp [idsA])⟩⟩
end
end
end Go.Ev
