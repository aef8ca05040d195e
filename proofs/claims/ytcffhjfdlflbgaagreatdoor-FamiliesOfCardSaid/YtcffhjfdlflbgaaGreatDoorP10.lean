import Derived.Test.YtcffhjfdlflbgaaGreatDoorP09
set_option linter.all false
open Bool renaming false_eq_true->ν,and_eq_true->ο
open Option.some renaming injEq->ξ
open Nat renaming beq->π
set_option linter.all false
set_option maxRecDepth 100000
set_option maxHeartbeats 4000000
section
namespace Go.Ev
open Go Go.RowKit
variable{c:Code}{C:bg}{D:Nat->Prop}{m:Nat->bv}{w:World}{st:St}
section
variable{P:Program}{T:fm}(hT:fH P T){cfg:cL}(hK:qX cfg){code:bg->Code->St->Option (AX×St)}(hcode:y6 P cfg code)(hll:mQ code)
include hT hK hcode hll
theorem ac8{f:FuncId}{fn:Func}(hb:ec T f=some (fn,c)){args:List AV}{o:aB}{v:AV}(hbl:bc cfg.a0.n args)(h:An T cfg code fn c args=some v)
 (hi:dX cfg D m C o w) (hok:fM D m args):jV P f (ap m args).toArray w λV w'=>V=aj m v/\dh D m v/\dw cfg C D m o w D m o w'/\aa9 D w D m w':=by
 simp only[An,ag,aA,ξ]at h;obtain⟨r,he,hbe,rfl⟩:=h;have hg:∀id,id<cfg.a0.n->fB ⟨[(0,cfg.a0)],cfg.a0.n⟩ ⟨0,[],[]⟩ id=cfg.a0.at id:=λid hid=>by
  grind [fB,gB,fp,eK]
 have hi0:dX cfg (λid=>D id/\id<cfg.a0.n) m ⟨[(0,cfg.a0)],cfg.a0.n⟩ ⟨0,[],[]⟩ w:=by
  refine⟨λid hd=>?_,λi j hdi hdj hij hl hr=>?_,λid hd=>hd.2,λg hg'=>?_,λid hid=>?_,λid hid=>η,Nat.le_refl _,rfl⟩
  . rw[hg id hd.2,<-(hi.b0 id hd.2).2];refine(hi.a0 id hd.1).c0 (by rw[(hi.b0 id hd.2).2];exact hK.a0 id hd.2) λi hm hD=>⟨hD,?_⟩;rw[(hi.b0 id hd.2).2]at hm;exact hK.b0 id hd.2 i hm
  . rw[hg i hdi.2,<-(hi.b0 i hdi.2).2]at hl;rw[hg j hdj.2,<-(hi.b0 j hdj.2).2]at hr;exact hi.inj i j hdi.1 hdj.1 hij hl hr
  . obtain⟨a1,a2,a3⟩:=hi.c0 g hg';exact⟨⟨a1,Nat.lt_of_lt_of_le hg' hK.G⟩,a2,a3⟩
  . exact⟨⟨(hi.b0 id hid).1,hid⟩,hg id hid⟩
 refine .inl (ab_ hT hcode hb he hi0 (λi hm=>⟨⟨(hok i hm).1,abm hbl i hm⟩,(hok i hm).2⟩) λD' m' w' hv hx=>?_);refine y9 hi hx (λi hd=>hd.1) (λi hd hs=>?_) hv λi hm hd'=>?_
 . grind [dQ,jT,fp]
 . rcases hx.l0 i.1 hd' with hd|hge
   . omega
   . have:=mD 20 hbe i hm;grind
theorem Jf{f:FuncId}{fn:Func}(hb:ec T f=some (fn,c)){args:List AV}{o:aB}{ids:List Nat}(hids:∀i∈ids,D i){r:AV×aB}(h:A9 T code C fn c args o (gy C o ids)=some r)
 (hi:dX cfg D m C o w) (hok:fM D m args) :
 jV P f (ap m args).toArray w λV w'=>∃D' m',V=aj m' r.1/\dh D' m' r.1/\dw cfg C D m o w D' m' r.2 w'/\(ids=[]->aa9 D w D' m' w'):=by
 simp only[A9,ag,ξ]at h;obtain⟨r1,he,rfl⟩:=h;have hlo:=hi.lo;have hleD:∀p∈gy C o ids,D p.1/\dQ C o p.1=some p.2:=λp hp=>⟨hids _ (jg hp).1,(jg hp).2⟩;have hleg:∀(le:List (Nat×cD)) id x,fp le id=some x->∃p∈le,p=(id,x):=by
  intro le;induction le<;>grind [fp,ic]
 have hC1:∀(o1:aB) id,id<C.lo+o.n->fB ⟨(C.lo,o)::C.B,C.lo+o.n⟩ o1 id=(match fp o1.le id with
  | some x=>x
  | none=>fB C o id):=λo1 id hid=>by
  grind [fB,gB,jT]
 have hg:∀id,id<C.lo+o.n->fB ⟨(C.lo,o)::C.B,C.lo+o.n⟩ ⟨0,[],gy C o ids⟩ id=fB C o id:=λid hid=>by
  grind [fI]
 have hown:∀id,D id->(dQ ⟨(C.lo,o)::C.B,C.lo+o.n⟩ ⟨0,[],gy C o ids⟩ id).isSome->id∈ids/\(dQ C o id).isSome=true:=λid hd hs=>by
  unfold dQ at hs;rw[jT (by have:=hi.lt id hd;grind)]at hs;simp only[cond_false]at hs;obtain⟨p,hp,e⟩:=List.mem_map.1 (eY.1 hs);grind [jg]
 have hi1:dX cfg D m ⟨(C.lo,o)::C.B,C.lo+o.n⟩ ⟨0,[],gy C o ids⟩ w:=by
  refine⟨λid hd=>?_,λi j hdi hdj hij hl hr=>?_,λid hd=>hi.lt id hd,hi.c0,λid hid=>?_,λid hid=>?_,by grind,rfl⟩
  . rw[hg id (hi.lt id hd)];exact hi.a0 id hd
  . rw[hg i (hi.lt i hdi)]at hl;rw[hg j (hi.lt j hdj)]at hr;exact hi.inj i j hdi hdj hij hl hr
  . rw[hg id (hi.lt id (hi.b0 id hid).1)];exact hi.b0 id hid
  . obtain⟨p,hp,e⟩:=List.mem_map.1 hid;obtain⟨hd,ho⟩:=hleD p hp;rw[<-e];refine⟨?_,hi.lt p.1 hd⟩;unfold dQ at ho;by_cases hb':C.lo<=p.1
    . omega
    . rw[jT hb',cond_false]at ho;exact(hi.le p.1 (eY.1 η)).1
 refine .inl (ab_ hT hcode hb he hi1 hok λD' m' w' hv hx=>?_);obtain⟨hl1,hl2⟩:=abs hll he rfl;simp only at hl2;have take:∀o2:aB,o2.n=r1.2.n+o.n->o2.le.map (·.1)=o.le.map (·.1)->o2.os.length=o2.n->(∀id,D' id->fB C o2 id=fB ⟨(C.lo,o)::C.B,C.lo+o.n⟩ r1.2 id)->
  dw cfg C D m o w D' m' o2 w':=by
  intro o2 hn hle hlen hget;have hi2:dX cfg D' m' C o2 w':=by
   refine⟨λid hd=>by rw[hget id hd];exact hx.b0.a0 id hd,λi j hdi hdj hij hl hr=>?_,λid hd=>?_,hx.b0.c0,λid hid=>?_,λid hid=>?_,hi.lo,hlen⟩
   . rw[hget i hdi]at hl;rw[hget j hdj]at hr;exact hx.b0.inj i j hdi hdj hij hl hr
   . have:=hx.b0.lt id hd;grind
   . rw[hget id (hx.b0.b0 id hid).1];exact hx.b0.b0 id hid
   . rw[hle]at hid;exact hi.le id hid
  refine⟨hi2,hx.g0,hx.a0,λi hd=>?_,by omega,hx.os,hx.j0,hx.c0,hx.i0,λk hk hn=>hx.f0 k hk λi hd hs=>hn i hd (hown i hd hs).2,hle,λi hd hnd=>?_⟩
  . have:=hx.l0 i hd;omega
  . rcases hx.e0 i hd hnd with hf|⟨j,hj,hoj,e⟩<;>grind
 have mute:ids=[]->aa9 D w D' m' w':=λe=>by
  have hno:∀i,D i->(dQ ⟨(C.lo,o)::C.B,C.lo+o.n⟩ ⟨0,[],gy C o ids⟩ i).isSome->False:=λi hd hs=>by
   grind
  exact⟨λk hk=>hx.f0 k hk λi hd hs=>(hno i hd hs).elim,λi hd hnd=>(hx.e0 i hd hnd).resolve_right λ⟨j,hj,hoj,_⟩=>hno j hj hoj⟩
 have hgrown:∀id,D' id->fp r1.2.le id=none->fB C (grown r1.2 o) id=fB ⟨(C.lo,o)::C.B,C.lo+o.n⟩ r1.2 id:=λid hd hle=>by
  by_cases hid:id<C.lo+o.n
  . grind [ta]
  . have hlt:=hx.b0.lt id hd;grind [AE,fB,gB,eK]
 unfold Cg;cases hle:gy C o ids with
 | nil=>
   rw[hle]at hl2;have hle2:r1.2.le=[]:=by simpa using hl2
   simp only;cases hbe:rD (C.lo+o.n) 20 r1.1 with
   | true=>
     simp only[cond_true];obtain⟨h1,h2,h3,h4⟩:=y9 hi hx (λi hd=>hd) (λi hd hs=>by
      unfold dQ at hs;rw[jT (by have:=hi.lt i hd;simp only;omega),hle]at hs;simp[fp]at hs) hv λi hm hd'=>by
       rcases hx.l0 i.1 hd' with hd|hge
       . exact hd
       . have:=mD 20 hbe i hm;simp only at hge;omega
     exact⟨D,m,h1,h2,h3,λ_=>h4⟩
   | false=>
     simp only[cond_false];refine⟨D',m',rfl,hv,take _ rfl rfl (by simp[hl1,hi.e0]) λid hd=>?_,mute⟩;exact hgrown id hd (by rw[hle2];rfl)
 | cons p ps=>
   simp only;obtain⟨b1,b2,b3⟩:=F7 (C:=C) (l:=r1.2.le) (o:=grown r1.2 o);have hgl:(grown r1.2 o).os.length=(grown r1.2 o).n:=by simp[grown,hl1,hi.e0]
   refine⟨D',m',rfl,hv,take _ b1 b2 (b3 hgl) λid hd=>?_,mute⟩;have hlt:=hx.b0.lt id hd;simp only at hlt;have hnd:(r1.2.le.map (·.1)).Nodup:=by rw[hl2];exact aaz
   have hpp:∀q∈r1.2.le,q.1<C.lo+(grown r1.2 o).n/\(dQ C (grown r1.2 o) q.1).isSome=true:=λq hq=>by
    have:q.1∈(gy C o ids).map (·.1):=by rw[<-hl2];exact List.mem_map.2 ⟨q,hq,rfl⟩
    obtain⟨q',hq',e⟩:=List.mem_map.1 this;obtain⟨hd',ho'⟩:=hleD q' hq';have hlt':=hi.lt q'.1 hd';rw[<-e];refine⟨by simp only[grown];omega,?_⟩;rw[show(dQ C (grown r1.2 o) q'.1).isSome=(dQ C o q'.1).isSome from ig (o:=o) (o':=grown r1.2 o) rfl q'.1,ho'];rfl
   have:=Au (i:=id) hgl hnd hpp (by simp only[grown];omega);rw[show(⟨r1.2.n+o.n,r1.2.os++o.os,o.le⟩:aB)=grown r1.2 o from rfl,this];cases hx':fp r1.2.le id with
   | none=>exact hgrown id hd hx'
   | some y=>
     simp only;have hid:id<C.lo+o.n:=by
      have:id∈r1.2.le.map (·.1):=eY.1 (by rw[hx'];rfl);rw[hl2]at this;obtain⟨q',hq',e⟩:=List.mem_map.1 this;rw[<-e];exact hi.lt q'.1 (hleD q' hq').1
     rw[hC1 _ id hid,hx']
theorem yQ{inl:Bool}{mu:Prop}(hmu:inl->¬mu)(horc:jH P cfg True λC f args o=>cfg.c0 f C args o):jH P cfg mu (aaB T cfg inl code):=by
 intro C f args o r h D m w hi hok;unfold aaB at h;cases ho:cfg.c0 f C args o with
 | some r'=>
   rw[ho]at h;cases h;exact(horc C f args o r ho D m w hi hok).a0 λV w' ⟨D',m',h1,h2,h3,h4⟩=>⟨D',m',h1,h2,h3,λ_=>h4 trivial⟩
 | none=>
   rw[ho]at h;simp only[D6,ag]at h;obtain⟨⟨fn,c⟩,hb,h⟩:=h;cases hc:(cfg.d0 f&&bc cfg.a0.n args)with
   | true=>
     simp only[hc,cond_true,ag,ξ]at h;obtain⟨v,hv,rfl⟩:=h;rw[ο]at hc;exact(ac8 hT hK hcode hll hb hc.2 hv hi hok).a0 λV w' ⟨h1,h2,h3,h4⟩=>⟨D,m,h1,h2,h3,λ_ _=>h4⟩
   | false=>
     simp only[hc,cond_false,DZ]at h;cases hy:(inl&&Dx args)with
     | true=>
       rw[hy,cond_true]at h;rw[ο]at hy;exact .inl (ab_ hT hcode hb h hi hok λD' m' w' hv hx=>⟨D',m',rfl,hv,hx,λhm=>(hmu hy.1 hm).elim⟩)
     | false=>
       rw[hy,cond_false]at h;exact(Jf hT hK hcode hll hb (λi hm=>nh hok hm) h hi hok).a0 λV w' ⟨D',m',h1,h2,h3,h4⟩=>⟨D',m',h1,h2,h3,λ_=>h4⟩
end
theorem CS{D:Nat->Prop}{m:Nat->bv}{tn:Nat}:∀{ps:List Tmp} {vs:List AV} {tmps:Array Value} {ts ts':Ts},Hp tn ts ps vs=some ts'->tmps.size=tn->(∀t,tmps.getD t undef=aj m (ts.b0 t))->(∀t,dh D m (ts.b0 t))->fM D m vs->
 (((ps.zip (ap m vs)).foldl (λtmps (p:Tmp×Value)=>tmps.setIfInBounds p.1 p.2) tmps).size=tn/\(∀t,((ps.zip (ap m vs)).foldl (λtmps (p:Tmp×Value)=>tmps.setIfInBounds p.1 p.2) tmps).getD t undef=aj m (ts'.b0 t))/\∀t,dh D m (ts'.b0 t))/\ps.length=vs.length
 | [],[],tmps,ts,ts',h,h1,h2,h3,_=>by cases h;simp_all
 | p::ps,v::vs,tmps,ts,ts',h,h1,h2,h3,h4=>by
   simp only[Hp,aA,ο,aU]at h;obtain⟨⟨hp1,hp2⟩,h⟩:=h;obtain⟨hv,hvs⟩:=fE.1 h4;have hd:p<2^20-1:=Nat.lt_of_lt_of_le hp2 ζ;obtain⟨a,b⟩:=CS (tmps:=tmps.setIfInBounds p (aj m v)) h η (λt=>by
    grind [Ts.e0,Array.getInternal_eq_getElem]) (λt=>by
    grind [Ts.e0]) hvs
   simp_all [ap]
 | [],_::_,_,_,_,h,_,_,_,_=>by cases h
 | _::_,[],_,_,_,h,_,_,_,_=>by cases h
theorem HE{α β γ:Type}(f:γ->α->β->γ)(xs:Array α)(ys:List β)(z:γ):(xs.zip ys.toArray).foldl (λc (x,y)=>f c x y) z=(xs.toList.zip ys).foldl (λc p=>f c p.1 p.2) z:=by
 rw[<-Array.foldl_toList];simp
section
variable{P:Program}{cfg:cL}{code:bg->Code->St->Option (AX×St)}(hcode:y6 P cfg code)(hll:mQ code)
include hcode hll
theorem Id:CN P cfg False (qJ code):=by
 intro C id args o r h;refine⟨λhf=>hf,λD m w hi hd hok=>?_⟩;simp only[qJ,ag]at h;obtain⟨q,hq,ts,hts,x,hx,h⟩:=h;simp only[oO,aA,ag]at h;obtain⟨hn,q1,hq1,hrd,x2,hx2,h⟩:=h;simp only[u_,ag,ξ]at h;obtain⟨q2,hq2,rfl⟩:=h;have hown:=im hq;obtain⟨fn,tmps,hb,hrel⟩:∃fn tmps,w.heap[(m id).a0]? = some (.loop (lR m q fn tmps))/\j_ D m q fn tmps:=by
  have:=hi.a0 id hd;rw[fI hown]at this;exact this
 obtain⟨⟨s1,s2,s3⟩,s4⟩:=CS hts hrel.b0 hrel.d0 hrel.c0 hok;have hsz:(ap m args).toArray.size=(lR m q fn tmps).params.size:=by
  grind [b7,lR]
 refine⟨_,_,_,_,run_yield hb hsz,?_⟩;refine roundIn_of_wpIn (F:=Fence.wide) trivial ?_;have hT0:TR D m ⟨ts,q.tn,o,[],some id⟩ { tmps:=((lR m q fn tmps).params.zip (ap m args).toArray).foldl (λtmps (t,a)=>tmps.setIfInBounds t a) (lR m q fn tmps).tmps,defers:=[] }:=by
  have e:=HE (λ(c:Array Value)(t:Tmp)(a:Value)=>c.setIfInBounds t a) (lR m q fn tmps).params (ap m args) (lR m q fn tmps).tmps;refine⟨?_,λt=>?_,s3,rfl,λd hd=>η,λi hi=>η⟩
  . rw[e];exact s1
  . rw[e];exact s2 t
 refine hcode C q.a0 ⟨ts,q.tn,o,[],some id⟩ x hx D m _ w hi hT0 _ λD1 m1 a1 w1 ht1 he1=>?_;have hx1:x.1=.a:=by cases hxe:x.1<;>rw[hxe]at hn<;>first|rfl|cases hn
 rw[hx1];have hd1:=he1.g0 id hd;have hm1:=he1.a0 id hd;have hown1:=im hq1;obtain⟨fn1,tmps1,hb1,hrel1⟩:∃fn tmps,w1.heap[(m1 id).a0]? = some (.loop (lR m1 q1 fn tmps))/\j_ D1 m1 q1 fn tmps:=by
  have:=he1.b0.a0 id hd1;rw[fI hown1]at this;exact this
 have hlt1:=(Array.getElem?_eq_some_iff.1 hb1).1;have hst:(lR m1 q1 fn1 tmps1).state=.ready:=by
  show q1.f0=.ready;cases hs:q1.f0<;>rw[hs]at hrd<;>first|rfl|cases hrd
 have hbr:=run_beginRound (P:=P) hb1 hst;have he2:dw cfg C D1 m1 x.2.o w1 D1 m1 (lD C x.2.o id (.c ⟨.busy,q1.e0,q1.ts,q1.tn,q1.b0,q1.a0,q1.c0,q1.d0⟩)) (w1.putObj (m1 id).a0 (.loop { lR m1 q1 fn1 tmps1 with state:=.busy })):=
  dw.n0 he1.b0 hd1 hown1 rfl θ (λk hk=>World.putObj_heap_other hk) ⟨fn1,tmps1,World.putObj_heap_same hlt1,⟨hrel1.b0,hrel1.d0,hrel1.c0,hrel1.a0⟩⟩ rfl rfl rfl
 show ∃w₂,(Instr.beginRound (m id).a0).run P w1=.ok () w₂/\_;rw[<-hm1];refine⟨_,hbr,?_⟩;have hro:wo m1 x.2.ro=some (m1 id).a0:=by rw[(hll _ _ _ _ hx).2];rfl
 have hbody:=hcode C q.c0 ⟨x.2.ts,x.2.tn,lD C x.2.o id (.c ⟨.busy,q1.e0,q1.ts,q1.tn,q1.b0,q1.a0,q1.c0,q1.d0⟩),x.2.ds,x.2.ro⟩ x2 hx2 D1 m1 a1 _ he2.b0 ⟨ht1.b0,ht1.d0,ht1.c0,ht1.a0,ht1.e0,ht1.f0⟩
  (roundPost P (m1 id).a0 λe w'=>∃v,e=.returned v/\∃D' m',v=aj m' (.e (qu x2.1))/\dh D' m' (.e (qu x2.1))/\dw cfg C D m o w D' m' (lD C x2.2.o id (.c ⟨lY x2.1,abg x2.1,q2.ts,q2.tn,q2.b0,q2.a0,q2.c0,q2.d0⟩)) w')
 rw[hro]at hbody;refine hbody λD3 m3 a3 w3 ht3 he3=>?_;have hd3:=he3.g0 id hd1;have hm3:=he3.a0 id hd1;have hown3:=im hq2;obtain⟨fn3,tmps3,hb3,hrel3⟩:∃fn tmps,w3.heap[(m3 id).a0]? = some (.loop (lR m3 q2 fn tmps))/\j_ D3 m3 q2 fn tmps:=by
  have:=he3.b0.a0 id hd3;rw[fI hown3]at this;exact this
 have hlt3:=(Array.getElem?_eq_some_iff.1 hb3).1;have he4:dw cfg C D3 m3 x2.2.o w3 D3 m3 (lD C x2.2.o id (.c ⟨lY x2.1,abg x2.1,q2.ts,q2.tn,q2.b0,q2.a0,q2.c0,q2.d0⟩)) (w3.putObj (m3 id).a0 (.loop { lR m3 q2 fn3 tmps3 with state:=lY x2.1,pending:=abg x2.1 })):=
  dw.n0 he3.b0 hd3 hown3 rfl θ (λk hk=>World.putObj_heap_other hk) ⟨fn3,tmps3,World.putObj_heap_same hlt3,⟨hrel3.b0,hrel3.d0,hrel3.c0,hrel3.a0⟩⟩ rfl rfl rfl
 have hall:=he1.d0 (he2.d0 (he3.d0 he4));rw[<-hm3];have hend:∀j:Option Code,j=abg x2.1->∃v w',(Instr.endRound (m3 id).a0 j).run P w3=.ok v w'/\∃v',Ending.returned v=.returned v'/\∃D' m',v'=aj m' (.e (qu x2.1))/\dh D' m' (.e (qu x2.1))/\dw cfg C D m o w D' m' (lD C x2.2.o id (.c ⟨lY x2.1,abg x2.1,q2.ts,q2.tn,q2.b0,q2.a0,q2.c0,q2.d0⟩)) w':=by
  rintro j rfl;have hbool:(abg x2.1).isNone=qu x2.1:=by cases x2.1<;>rfl
  have hstate:(if(abg x2.1).isNone then LoopState.ready else LoopState.done)=lY x2.1:=by cases x2.1<;>rfl
  grind [run_endRound,aj,bM,aC]
 cases hxe:x2.1 with
 | a=>rw[hxe]at hend;exact hend none rfl
 | c=>rw[hxe]at hend;exact hend (some .ret) rfl
 | b j=>rw[hxe]at hend;exact hend (some (.exit j)) rfl
end
section
variable{P:Program}{b:Frame}{a:Act}{k:List Item}{cs:List Frame}{w:World}{Q:Exit->Act->World->Prop}
theorem D_:step P (lone (b.atR a (.code (.scope c)::k)) cs w)=.next (lone (b.atR a (.code c::.inScope c::k)) cs w):=
 step_lone_go κ
theorem zx:step P (lone (b.atR a (.inScope c::k)) cs w)=.next (lone (b.atR a k) cs w):=
 step_lone_go κ
theorem jX{x:Option Nat}(h:c.wpIn (FR x) 0 P (Exit.noGoto Q) a w):(Code.scope c).wpIn (FR x) 0 P Q a w:=by
 intro b k cs hro hb hr;obtain⟨e,a₁,w₁,hq,harr⟩:=h b (.inScope c::k) cs hro hb hr;have h0:StepsIn (Machine.fenced P (FR x)) P (lone (b.atR a (.code (.scope c)::k)) cs w) (lone (b.atR a (.code c::.inScope c::k)) cs w):=.one (fenced_calm (fr:=b.atR a (.code (.scope c)::k)) hb hr rfl) D_;cases e with
 | normal=>exact⟨.normal,a₁,w₁,hq,h0.trans (StepsIn.trans harr (.one (fenced_calm (fr:=b.atR a₁ (.inScope c::k)) hb hr rfl) zx))⟩
 | exit id=>
   exact⟨.exit id,a₁,w₁,hq,λk' hk=>h0.trans (harr.1 k' (by grind [exitTo])),λhr' hk=>let⟨k₁,h1,h2⟩:=harr.2 hr' (by grind [exitTo]);⟨k₁,h1,h0.trans h2⟩⟩
 | goto l=>exact hq.elim
 | ret=>exact⟨_,a₁,w₁,hq,.of_steps h0 harr⟩
 | panic ch=>exact⟨_,a₁,w₁,hq,.of_steps h0 harr⟩
 | outgrown=>exact⟨_,a₁,w₁,hq,.of_steps h0 harr⟩
theorem pY{l:Nat}{r:Loop}(fn:FuncId)(tmps:Array Value)(ps:Array Tmp)(assign body:Code)(h:w.heap[l]? = some (.loop r)) :
 (Instr.enterLoop fn tmps ps assign body (some l)).run P w =
   .ok (w.heap.size,[]) (w.alloc (.loop { state:=.ready,pending:=none,fn,tmps,params:=ps,assign,body,defers:=r.defers })):=by
 simp_all [Instr.enterLoop,run_getLoop]
end
section
variable{P:Program}{T:fm}(hT:fH P T){cfg:cL}{code:bg->Code->St->Option (AX×St)}(hcode:y6 P cfg code)(hll:mQ code)
include hT hcode hll
theorem BH{a:Act}(hi:dX cfg D m C st.o w)(ht:TR D m st a){e:Nat×aB×List Nat}(h:aaS C st=some e)(fn:FuncId)(ps:Array Tmp)(assign body:Code) :
 ∃D1 m1 w1 mark,(Instr.enterLoop fn a.tmps ps assign body (wo m st.ro)).run P w=.ok ((m1 (e.2.1.b0 C)).a0,mark) w1/\D1 (e.2.1.b0 C)/\
  dw cfg C D m st.o w D1 m1 (e.2.1.a0 (.c ⟨.ready,none,st.ts,st.tn,ps,assign,body,e.1⟩)) w1/\mark++a.defers=gJ m1 e.2.2/\∀d∈e.2.2,D1 d:=by
 have lay:∀{D0:Nat->Prop} {m0:Nat->bv} {o0:aB} {w0:World} {d:Nat},dw cfg C D m st.o w D0 m0 o0 w0->D0 d->
  dw cfg C D m st.o w (xD D0 (C.lo+o0.n)) (AT m0 (C.lo+o0.n) ⟨w0.heap.size,0,0⟩) (o0.a0 (.c ⟨.ready,none,st.ts,st.tn,ps,assign,body,d⟩))
   (w0.alloc (.loop { state:=.ready,pending:=none,fn,tmps:=a.tmps,params:=ps,assign,body,defers:=(m0 d).a0 })):=by
  intro D0 m0 o0 w0 d hx hd;refine hx.d0 (dw.p0 hx.b0 θ (λk hk=>Below.heap_alloc _ _ k hk) (Nat.le_refl _) ?_ rfl rfl rfl);have ht0:=ht.g0 hx.g0 hx.a0;exact⟨fn,a.tmps,World.alloc_heap_new w0 _,⟨ht0.b0,ht0.d0,ht0.c0,hd⟩⟩
 unfold aaS at h;cases hro:st.ro with
 | none=>
   rw[hro]at h;cases h;have h1:dw cfg C D m st.o w (xD D (C.lo+st.o.n)) (AT m (C.lo+st.o.n) ⟨w.heap.size,0,0⟩) (st.o.a0 .e) (w.alloc (.deferred (some []))):=
    dw.p0 hi θ (λk hk=>Below.heap_alloc _ _ k hk) (Nat.le_refl _) (World.alloc_heap_new w _) rfl rfl rfl
   have hd1:xD D (C.lo+st.o.n) (st.o.b0 C):=.inr rfl;have h2:=lay h1 hd1;have hblk:(AT m (C.lo+st.o.n) ⟨w.heap.size,0,0⟩ (st.o.b0 C)).a0=w.heap.size:=by
    show(AT m (C.lo+st.o.n) ⟨w.heap.size,0,0⟩ (C.lo+st.o.n)).a0=_;rw[fJ]
   rw[hblk]at h2;have hrun:=run_enterLoop_outer (P:=P) (w:=w) fn a.tmps ps assign body;refine⟨_,_,_,[{ target:=.collected w.heap.size,args:=#[] }],?_,.inr rfl,h2,?_,?_⟩
   . show(Instr.enterLoop fn a.tmps ps assign body none).run P w=_;rw[hrun];congr 2
     show w.heap.size+1=(AT _ (C.lo+(st.o.a0 .e).n) _ (C.lo+(st.o.a0 .e).n)).a0;rw[fJ];simp
   . rw[ht.a0];have hs:gJ (AT (AT m (C.lo+st.o.n) ⟨w.heap.size,0,0⟩) (C.lo+(st.o.a0 .e).n) ⟨(w.alloc (.deferred (some []))).heap.size,0,0⟩) st.ds=gJ m st.ds:=iK ht.e0 λi hi'=>by
      have:=hi.lt i hi';grind [qE,aB.a0]
     show _::gJ m st.ds=_::gJ _ st.ds;rw[hs];congr 2
     show Target.collected w.heap.size=.collected (AT (AT m (C.lo+st.o.n) _) (C.lo+(st.o.a0 .e).n) _ (C.lo+st.o.n)).a0;grind [qE,aB.a0,fJ]
   . intro d hd;rcases List.mem_cons.1 hd with rfl|hd
     . exact .inl (.inr rfl)
     . exact .inl (.inl (ht.e0 d hd))
 | some i=>
   rw[hro]at h;simp only[ag,ξ]at h;obtain⟨q,hq,rfl⟩:=h;have hdi:=ht.f0 i hro;obtain⟨fn0,tmps0,hb,hrel⟩:∃fn tmps,w.heap[(m i).a0]? = some (.loop (lR m q fn tmps))/\j_ D m q fn tmps:=by
    have:=hi.a0 i hdi;rw[fI (im hq)]at this;exact this
   have h2:=lay (dw.h0 hi) hrel.a0;have hrun:=pY (P:=P) fn a.tmps ps assign body hb;refine⟨_,_,_,[],?_,.inr rfl,h2,?_,λd hd=>.inl (ht.e0 d hd)⟩
   . show(Instr.enterLoop fn a.tmps ps assign body (some (m i).a0)).run P w=_;rw[hrun];congr 2
     show w.heap.size=(AT _ (C.lo+st.o.n) _ (C.lo+st.o.n)).a0;rw[fJ]
   . rw[ht.a0];show gJ m st.ds=gJ _ st.ds;exact(iK ht.e0 λi hi'=>by
      have:=hi.lt i hi';grind [qE]).symm
theorem Lj{a:Act}(hi:dX cfg D m C st.o w)(ht:TR D m st a){g:Operand}{ps:Array Tmp}{assign body:Code}{r:AX×St}(h:Bj g ps assign body T cfg code C st=some r)
 {Q:Exit->Act->World->Prop} (hq:∀D' m' a' w',TR D' m' r.2 a'->dw cfg C D m st.o w D' m' r.2.o w'->Q (lH r.1) a' w'):(Code.rangeFunc g ps assign body).wpIn (FR (wo m st.ro)) 0 P Q a w:=by
 simp only[Bj,ag]at h;obtain⟨gv,hgv,e,he,x,hx,h⟩:=h;simp only[xX,ag,aA,ξ]at h;obtain⟨q,hq',hbusy,ax,hax,rfl⟩:=h;obtain⟨hev,hgok⟩:=mM hi ht hgv;refine wpIn_rangeFunc λfn _=>?_;obtain⟨D1,m1,w1,mark,hrun,hl1,hx1,hmk,hds⟩:=BH (P:=P) hT hcode hll hi ht he fn ps assign body;cases gv<;>simp only[yv,reduceCtorEq]at hx;rename_i f first captured
 rw[ag]at hx;obtain⟨fc,hfc,hx⟩:=hx;have hok1:fM D1 m1 (first++[.m (e.2.1.b0 C)]++captured):=by
  have h1:fM D m first/\fM D m captured:=⟨λi hm=>hgok i (by simp[aC,hm]),λi hm=>hgok i (by simp[aC,hm])⟩
  refine mi.2 ⟨mi.2 ⟨h1.1.a0 hx1.g0 hx1.a0,fE.2 ⟨λi hm=>?_,fQ⟩⟩,h1.2.a0 hx1.g0 hx1.a0⟩;grind [aC]
 obtain⟨fn',cc⟩:=fc;obtain⟨hent,hcalls⟩:=ab_ (P:=P) (cfg:=cfg) (R:=λV w'=>∃D' m',V=aj m' x.1/\dh D' m' x.1/\dw cfg C D1 m1 (e.2.1.a0 (.c ⟨.ready,none,st.ts,st.tn,ps,assign,body,e.1⟩)) w1 D' m' x.2 w') hT hcode hfc hx hx1.b0 hok1
  λD' m' w' hv hxx=>⟨D',m',rfl,hv,hxx⟩
 have hargs:(ap m1 first).toArray++#[Value.func (.yield (m1 (e.2.1.b0 C)).a0) #[] #[]]++(ap m1 captured).toArray=(ap m1 (first++[.m (e.2.1.b0 C)]++captured)).toArray:=by
  simp[mF,ap,aj]
 refine⟨(m1 (e.2.1.b0 C)).a0,mark,w1,{ target:=.fn (.func f) (ap m1 captured).toArray,args:=(ap m1 first).toArray++#[.func (.yield (m1 (e.2.1.b0 C)).a0) #[] #[]] },w1,f,(ap m1 (first++[.m (e.2.1.b0 C)]++captured)).toArray,w1,hrun,?_,λ_ _=>trivial,?_,λhk=>(by cases hk),?_⟩
 . have e1:ap m first=ap m1 first:=(yd (λi hm=>hgok i (by simp[aC,hm])) hx1.a0).symm
   have e2:ap m captured=ap m1 captured:=(yd (λi hm=>hgok i (by simp[aC,hm])) hx1.a0).symm;simp only[resolve,hev,aj,Deferred.ofValue,e1,e2];simp[go_sem]
 . grind [invoke]
 . refine CallsIn.mono (GA hcalls) ?_;rintro e' w3 ⟨v,rfl,D3,m3,rfl,hv3,hx3⟩;have hl3:=hx3.g0 _ hl1;have hm3:=hx3.a0 _ hl1;obtain⟨fn3,tmps3,hb3,hrel3⟩:∃fn tmps,w3.heap[(m3 (e.2.1.b0 C)).a0]? = some (.loop (lR m3 q fn tmps))/\j_ D3 m3 q fn tmps:=by
    have:=hx3.b0.a0 _ hl3;rw[fI (im hq')]at this;exact this
   have hlt3:=(Array.getElem?_eq_some_iff.1 hb3).1;have hnb:(lR m3 q fn3 tmps3).state≠.busy:=by
    show q.f0≠.busy;intro hs;rw[hs]at hbusy;cases hbusy
   have hend:=run_endLoop (P:=P) hb3 hnb;have he4:dw cfg C D3 m3 x.2 w3 D3 m3 (lD C x.2 (e.2.1.b0 C) (.c ⟨.exhausted,q.e0,q.ts,q.tn,q.b0,q.a0,q.c0,q.d0⟩)) (w3.putObj (m3 (e.2.1.b0 C)).a0 (.loop { lR m3 q fn3 tmps3 with state:=.exhausted })):=
    dw.n0 hx3.b0 hl3 (im hq') rfl θ (λk hk=>World.putObj_heap_other hk) ⟨fn3,tmps3,World.putObj_heap_same hlt3,⟨hrel3.b0,hrel3.d0,hrel3.c0,hrel3.a0⟩⟩ rfl rfl rfl
   generalize w3.putObj (m3 (e.2.1.b0 C)).a0 (.loop { lR m3 q fn3 tmps3 with state:=.exhausted })=w4 at hend he4;have hall:=hx1.d0 (hx3.d0 he4);have ht4:TR D3 m3 ⟨st.ts,st.tn,lD C x.2 (e.2.1.b0 C) (.c ⟨.exhausted,q.e0,q.ts,q.tn,q.b0,q.a0,q.c0,q.d0⟩),e.2.2,st.ro⟩ { a with defers:=mark++a.defers }:=by
    have h0:=(ht.g0 hx1.g0 hx1.a0).g0 hx3.g0 hx3.a0;refine⟨h0.b0,h0.d0,h0.c0,?_,λd hd=>hx3.g0 d (hds d hd),h0.f0⟩;show mark++a.defers=gJ m3 e.2.2;rw[hmk,iK hds hx3.a0]
   have hfin:=hq D3 m3 _ _ ht4 hall;show ∃jump w₄,(Instr.endLoop (m1 (e.2.1.b0 C)).a0).run P w3=.ok jump w₄/\_;rw[<-hm3];refine⟨_,_,hend,?_⟩;have hpend:(lR m3 q fn3 tmps3).pending=q.e0:=rfl;rw[hpend];unfold Hn at hax;split at hax
   . rename_i hp;cases hax;rw[hp];exact hfin
   . rename_i hp;cases hax;rw[hp];exact wpIn_ret hfin
   . rename_i id hp;cases hax;rw[hp];exact wpIn_exit hfin
   grind
end
section
variable{P:Program}{T:fm}(hT:fH P T)(hm:P.follows .mixedOrders){cfg:cL}(hK:qX cfg)(horc:jH P cfg True λC f args o=>cfg.c0 f C args o)(hof:b8 cfg λC f args o=>cfg.c0 f C args o)
include hT hm hK horc hof
theorem rv:∀n,y6 P cfg (eZ T cfg n)/\∀C b st r,eZ T cfg n C (.loop b) st=some r->∀D m a w,dX cfg D m C st.o w->TR D m st a->∀Q:Exit->Act->World->Prop,
 (∀D' m' a' w',TR D' m' r.2 a'->dw cfg C D m st.o w D' m' r.2.o w'->Q (lH r.1) a' w')->Code.roundsIn (FR (wo m st.ro)) 0 P b Q n a w
 | 0=>⟨λC c st r h=>(by cases h),λC b st r h=>(by cases h)⟩
 | n+1=>by
   obtain⟨ih,ihl⟩:=rv n;have ill:=px (T:=T) hof n;have frame:∀{C:bg} {c:Code} {st:St} {x:AX×St} {D D':Nat->Prop} {m m':Nat->bv} {a:Act} {w w':World},eZ T cfg n C c st=some x->TR D m st a->dw cfg C D m st.o w D' m' x.2.o w'->wo m' x.2.ro=wo m st.ro:=λhx ht he=>by
    rw[(ill _ _ _ _ hx).2,rh ht.f0 he.a0]
   have hloop:∀C b st r,eZ T cfg (n+1) C (.loop b) st=some r->∀D m a w,dX cfg D m C st.o w->TR D m st a->∀Q:Exit->Act->World->Prop,
    (∀D' m' a' w',TR D' m' r.2 a'->dw cfg C D m st.o w D' m' r.2.o w'->Q (lH r.1) a' w')->Code.roundsIn (FR (wo m st.ro)) 0 P b Q (n+1) a w:=by
    intro C b st r h D m a w hi ht Q hq;rw[eZ,fN,G2]at h;simp only[ag]at h;obtain⟨x,hx,h⟩:=h;rw[roundsIn_succ];refine ih C b st x hx D m a w hi ht _ λD' m' a' w' ht' he=>?_;unfold v_ at h;cases hxe:x.1 with
    | a=>
      rw[hxe]at h;have:=ihl C b x.2 r h D' m' a' w' he.b0 ht' Q λD2 m2 a2 w2 ht2 he2=>hq D2 m2 a2 w2 ht2 (he.d0 he2);rw[frame hx ht he]at this;exact this
    | b id=>rw[hxe]at h;cases h;rw[hxe]at hq;exact hq D' m' a' w' ht' he
    | c=>rw[hxe]at h;cases h;rw[hxe]at hq;exact hq D' m' a' w' ht' he
   refine⟨?_,hloop⟩;intro C c st r h D m a w hi ht Q hq;cases c with
   | loop b=>exact wpIn_loop_rounds (n+1) (hloop C b st r h D m a w hi ht Q hq)
   | skip=>rw[eZ,fN]at h;cases h;exact wpIn_skip (hq D m a w ht (dw.h0 hi))
   | label l=>rw[eZ,fN]at h;cases h;exact wpIn_label (hq D m a w ht (dw.h0 hi))
   | exit id=>rw[eZ,fN]at h;cases h;exact wpIn_exit (hq D m a w ht (dw.h0 hi))
   | ret=>rw[eZ,fN]at h;cases h;exact wpIn_ret (hq D m a w ht (dw.h0 hi))
   | seq c1 c2=>
     rw[eZ,fN,Nk]at h;simp only[ag]at h;obtain⟨x,hx,h⟩:=h;refine wpIn_seq (ih C c1 st x hx D m a w hi ht _ λD' m' a' w' ht' he=>?_);unfold v_ at h;cases hxe:x.1 with
     | a=>
       rw[hxe]at h;have:=ih C c2 x.2 r h D' m' a' w' he.b0 ht' Q λD2 m2 a2 w2 ht2 he2=>hq D2 m2 a2 w2 ht2 (he.d0 he2);rw[frame hx ht he]at this;exact this
     | b id=>rw[hxe]at h;cases h;rw[hxe]at hq;exact hq D' m' a' w' ht' he
     | c=>rw[hxe]at h;cases h;rw[hxe]at hq;exact hq D' m' a' w' ht' he
   | cond c c1 c2=>
     rw[eZ,fN,Ho]at h;simp only[ag]at h;obtain⟨v,hv,h⟩:=h;obtain⟨h1,_⟩:=mM hi ht hv;unfold Kl at h;split at h
     . exact wpIn_cond_true (by rw[h1];simp[aj]) (ih C c1 st r h D m a w hi ht Q hq)
     . exact wpIn_cond_false (by rw[h1];simp[aj]) (ih C c2 st r h D m a w hi ht Q hq)
     . cases h
   | block id b=>
     rw[eZ,fN,Bq]at h;simp only[ag,ξ]at h;obtain⟨x,hx,rfl⟩:=h;refine wpIn_block (ih C b st x hx D m a w hi ht _ λD' m' a' w' ht' he=>?_);unfold lQ at hq;cases hxe:x.1 with
     | a=>rw[hxe]at hq;simp only at hq;rw[hxe]at hq;exact hq D' m' a' w' ht' he
     | c=>rw[hxe]at hq;simp only at hq;rw[hxe]at hq;exact hq D' m' a' w' ht' he
     | b j=>
       rw[hxe]at hq;simp only at hq;by_cases e:j=id
       . rw[gm e,cond_true]at hq;have:=hq D' m' a' w' ht' he;simpa [Exit.inBlock,e,lH]using this
       . rw[ic e,cond_false]at hq;rw[hxe]at hq;have:=hq D' m' a' w' ht' he;simpa [Exit.inBlock,e,lH]using this
   | scope b=>
     rw[eZ,fN,LJ]at h;refine jX (ih C b st r h D m a w hi ht _ λD' m' a' w' ht' he=>?_);have:=hq D' m' a' w' ht' he;cases hre:r.1<;>rw[hre]at this<;>exact this
   | region id ops draw=>
     rw[eZ,fN,sD]at h;simp only[ag,ξ]at h;obtain⟨st',hs,rfl⟩:=h;exact Ik hT hm (yQ hT hK ih ill (λh=>by cases h) horc) (yH hof ill) (yQ hT hK ih ill (λ_ h=>h) horc) (Id ih ill) hi ht hs λD' m' a' w' ht' he=>hq D' m' a' w' ht' he
   | rangeFunc g ps assign body=>
     rw[eZ,fN]at h;exact Lj hT ih ill hi ht h hq
   | _=>cases h
theorem OS(n:Nat):jH P cfg True (aaB T cfg false (eZ T cfg n)):=yQ hT hK (rv hT hm hK horc hof n).1 (px hof n) (λh=>by grind) horc
end
end Go.Ev
end
section
namespace Go.Ev
open Go
variable{cfg':cL}{C:bg}{P:Program}{T:fm}{f:FuncId}{v:AV}
def KY(x:Bool):AV->Bool
 | .e y=>bQ x y
 | _=>false
def PM(k:IntKind)(x:Int):AV->Bool
 | .a l y=>zb k l&&aa x y
 | _=>false
def Pj(x:List UInt8):AV->Bool
 | .f y=>ae x y
 | _=>false
def PC(i o:Nat):AV->Bool
 | .h j p=>π i j&&π o p
 | _=>false
def CB:AV->Bool
 | .n=>true
 | _=>false
def xy:AV->Bool
 | .d=>true
 | _=>false
def w8:AV->Bool
 | .k=>true
 | _=>false
def Ht(t:TypeId)(f:AV->Bool):AV->Bool
 | .l u v=>π t u&&f v
 | _=>false
def PL(f:List AV->Bool):AV->Bool
 | .g vs=>f vs
 | _=>false
def Hl(f:List AV->Bool):AV->Bool
 | .c vs=>f vs
 | _=>false
def yW(f:AV->AV->Bool):List AV->List AV->Bool
 | [],[]=>true
 | x::xs,y::ys=>f x y&&yW f xs ys
 | _,_=>false
def CU:Nat->AV->AV->Bool
 | 0,_=>λ_=>false
 | d+1,a=>match a with
   | .e x=>KY x
   | .a k x=>PM k x
   | .f x=>Pj x
   | .h i o=>PC i o
   | .n=>CB
   | .d=>xy
   | .k=>w8
   | .l t v=>Ht t (CU d v)
   | .g xs=>PL (yW (CU d) xs)
   | .c xs=>Hl (yW (CU d) xs)
   | _=>λ_=>false
theorem rq{f:AV->AV->Bool}(hf:∀a b,f a b->a=b):∀{xs ys:List AV},yW f xs ys->xs=ys
 | [],[],_=>rfl
 | x::xs,y::ys,h=>by
   rw[yW,ο]at h;rw[hf x y h.1,rq hf h.2]
 | [],_::_,h=>by cases h
 | _::_,[],h=>by cases h
theorem Bl:∀(d:Nat) (a b:AV),CU d a b->a=b
 | 0,a,b,h=>by cases h
 | d+1,a,b,h=>by
   have ih:=Bl d;unfold CU at h;cases a<;>simp only[ν]at h
   case e x=>cases b<;>simp only[KY,ν,nc,beq_iff_eq]at h;rw[h]
   case a k x=>
    cases b<;>simp only[PM,ν,ο,iv,o7]at h;grind
   case f x=>cases b<;>simp only[Pj,ν,bV,beq_iff_eq]at h;rw[h]
   case h i o=>
    cases b<;>simp only[PC,ν,ο,cQ]at h;grind
   case n=>grind [CB]
   case d=>grind [xy]
   case k=>grind [w8]
   case l t v=>
    cases b<;>simp only[Ht,ν,ο,cQ]at h;grind
   case g xs=>cases b<;>simp only[PL,ν]at h;rw[rq ih h]
   case c xs=>cases b<;>simp only[Hl,ν]at h;rw[rq ih h]
abbrev EU:=Tb (List (List AV×AV))
def vL:List (List AV×AV)->List AV->Option AV
 | [],_=>none
 | e::es,args=>bif yW (CU 8) e.1 args then some e.2 else vL es args
def Sv(b:Option (AV×aB))(o:aB):Option AV->Option (AV×aB)
 | some v=>some (v,o)
 | none=>b
def YZ(M:EU)(base:FuncId->bg->List AV->aB->Option (AV×aB))(f:FuncId)(C:bg)(args:List AV)(o:aB):Option (AV×aB):=Sv (base f C args o) o (ob (M.c0 f) λl=>vL l args)
def EN(cfg:cL)(M:EU):cL:=⟨cfg.G,cfg.b0,cfg.d0,YZ M cfg.c0,cfg.a0⟩
def gM(P:Program)(cfg:cL)(f:FuncId)(args:List AV)(v:AV):Prop:=∀C D m o w,dX cfg D m C o w->fM D m args->
 jV P f (ap m args).toArray w λV w'=>V=aj m v/\dh D m v/\dw cfg C D m o w D m o w'/\aa9 D w D m w'
def Tn(P:Program)(cfg:cL)(M:EU):Prop:=∀f l,M.c0 f=some l->∀e∈l,gM P cfg f e.1 e.2
structure nG(P:Program)(T:fm)(cfg:cL):Prop where
 d0:fH P T
 b0:P.follows .mixedOrders=true
 lv:qX cfg
 f0:jH P cfg True λC f args o=>cfg.c0 f C args o
 c0:b8 cfg λC f args o=>cfg.c0 f C args o
theorem zh:∀{l:List (List AV×AV)} {args:List AV} {v:AV},vL l args=some v->(args,v)∈l
 | [],args,v,h=>by cases h
 | e::es,args,v,h=>by
   rw[vL]at h;cases hb:yW (CU 8) e.1 args with
   | true=>
     grind [rq,Bl]
   | false=>rw[hb,cond_false]at h;exact List.mem_cons_of_mem _ (zh h)
theorem dX.to{cfg:cL}(hG:cfg'.G=cfg.G)(hr:cfg'.a0=cfg.a0){D:Nat->Prop}{m:Nat->bv}{o:aB}{w:World}(h:dX cfg D m C o w):dX cfg' D m C o w:=
 ⟨h.a0,h.inj,h.lt,by rw[hG];exact h.c0,by rw[hr];exact h.b0,by rw[hr];exact h.le,by rw[hr];exact h.lo,h.e0⟩
theorem dw.to{cfg:cL}(hG:cfg'.G=cfg.G)(hr:cfg'.a0=cfg.a0){D D':Nat->Prop}{m m':Nat->bv}{o o':aB}{w w':World}(h:dw cfg C D m o w D' m' o' w'):dw cfg' C D m o w D' m' o' w':=
 ⟨h.b0.to hG hr,h.g0,h.a0,h.l0,h.o0,h.os,h.j0,h.c0,h.i0,h.f0,h.m0,h.e0⟩
theorem nG.e0{cfg:cL}(g:nG P T cfg){M:EU}(hM:Tn P cfg M):nG P T (EN cfg M):=by
 refine⟨g.d0,g.b0,⟨g.lv.a0,g.lv.G,g.lv.b0⟩,λC f args o r h D m w hi hok=>?_,λC f args o r h hl=>?_⟩
 . have h':Sv (cfg.c0 f C args o) o (ob (M.c0 f) λl=>vL l args)=some r:=h;have hi':dX cfg D m C o w:=dX.to (cfg:=EN cfg M) (cfg':=cfg) rfl rfl hi;cases hx:(ob (M.c0 f) λl=>vL l args)with
   | some v=>
     rw[hx]at h';cases h';rw[ag]at hx;obtain⟨l,hl,hv⟩:=hx;exact(hM f l hl _ (zh hv) C D m o w hi' hok).a0 λV w' ⟨h1,h2,h3,h4⟩=>⟨D,m,h1,h2,dw.to (cfg:=cfg) (cfg':=EN cfg M) rfl rfl h3,λ_ _=>h4⟩
   | none=>
     rw[hx]at h';exact(g.f0 C f args o r h' D m w hi' hok).a0 λV w' ⟨D',m',h1,h2,h3,h4⟩=>⟨D',m',h1,h2,dw.to (cfg:=cfg) (cfg':=EN cfg M) rfl rfl h3,h4⟩
 . have h':Sv (cfg.c0 f C args o) o (ob (M.c0 f) λl=>vL l args)=some r:=h;cases hx:(ob (M.c0 f) λl=>vL l args)with
   | some v=>rw[hx]at h';cases h';exact .a0 hl
   | none=>rw[hx]at h';exact g.c0 C f args o r h' hl
def RD(v:AV):Option AV->Bool
 | some x=>CU 8 x v
 | none=>false
def PZ(T:fm)(cfg:cL)(n:Nat)(args:List AV)(fc:Func×Code):Option AV:=An T cfg (eZ T cfg n) fc.1 fc.2 args
def pR(T:fm)(cfg:cL)(n:Nat)(f:FuncId)(args:List AV)(v:AV):Bool:=bc cfg.a0.n args&&RD v (ob (ec T f) (PZ T cfg n args))
theorem nG.a0{cfg:cL}(g:nG P T cfg)(n:Nat){args:List AV}(h:pR T cfg n f args v):gM P cfg f args v:=by
 intro C D m o w hi hok;rw[pR,ο]at h;obtain⟨hb,h⟩:=h;cases hx:ob (ec T f) (PZ T cfg n args)with
 | none=>rw[hx]at h;cases h
 | some x=>
   rw[hx]at h;have e:=Bl 8 x v h;subst e;rw[ag]at hx;obtain⟨⟨fn,c⟩,hbo,hc⟩:=hx;exact ac8 g.d0 g.lv (rv g.d0 g.b0 g.lv g.f0 g.c0 n).1 (px g.c0 n) hbo hb hc hi hok
theorem bD{cfg:cL}{args:List AV}{l:List (List AV×AV)}(h:gM P cfg f args v)(hl:∀e∈l,gM P cfg f e.1 e.2):∀e∈(args,v)::l,gM P cfg f e.1 e.2:=λe he=>by
 grind
theorem g_{cfg:cL}:∀e∈([]:List (List AV×AV)),gM P cfg f e.1 e.2:=λe he=>by grind
end Go.Ev
end
set_option linter.all false
set_option maxRecDepth 100000
set_option maxHeartbeats 4000000
namespace Go.Ev
open Go
variable{k:IntKind}{n off size id:Nat}{op:BinOp}{y x v:AV}
inductive Tr(R:Type) where
 | a0 (a:R)
 | c0
 | d0 (b:Bool) (k:Bool->Tr R)
 | e0 (i:Nat) (k:Nat->Tr R)
 | f0 (k:(Nat->Value)->Tr R)
def Tr.b0{R:Type}:Tr R->Option R
 | .a0 a=>some a
 | .c0=>none
 | .d0 b k=>(k b).b0
 | .e0 i k=>(k i).b0
 | .f0 _=>none
def Tr.h0{R S:Type}:Tr R->(R->Tr S)->Tr S
 | .a0 a,K=>K a
 | .c0,_=>.c0
 | .d0 b k,K=>.d0 b λd=>(k d).h0 K
 | .e0 i k,K=>.e0 i λd=>(k d).h0 K
 | .f0 _,_=>.c0
theorem Tr.g0{R S:Type}{K:R->Tr S}{s:S}:∀{t:Tr R},(t.h0 K).b0=some s->∃a,t.b0=some a/\(K a).b0=some s
 | .a0 a,h=>⟨a,rfl,h⟩
 | .c0,h=>by cases h
 | .d0 b k,h=>Tr.g0 (t:=k b) h
 | .e0 i k,h=>Tr.g0 (t:=k i) h
 | .f0 k,h=>by cases h
def Tr.wp{R:Type}(Q:R->Prop):Tr R->Prop
 | .a0 a=>Q a
 | .c0=>False
 | .d0 b k=>(k b).wp Q
 | .e0 i k=>(k i).wp Q
 | .f0 k=>∀J,(k J).wp Q
def Tr.l0{R S:Type}:Tr R->(R->Tr S)->Tr S
 | .a0 a,K=>K a
 | .c0,_=>.c0
 | .d0 b k,K=>.d0 b λd=>(k d).l0 K
 | .e0 i k,K=>.e0 i λd=>(k d).l0 K
 | .f0 k,K=>.f0 λJ=>(k J).l0 K
theorem Tr.k0{R S:Type}{K:R->Tr S}{Q:S->Prop}:∀{t:Tr R},(t.h0 K).wp Q->∃a,t.b0=some a/\(K a).wp Q
 | .a0 a,h=>⟨a,rfl,h⟩
 | .c0,h=>h.elim
 | .d0 b k,h=>Tr.k0 (t:=k b) h
 | .e0 i k,h=>Tr.k0 (t:=k i) h
 | .f0 k,h=>h.elim
theorem Tr.i0{R S:Type}{K:R->Tr S}{Q:S->Prop}:∀{t:Tr R},(t.l0 K).wp Q->t.wp λa=>(K a).wp Q
 | .a0 a,h=>h
 | .c0,h=>h
 | .d0 b k,h=>Tr.i0 (t:=k b) h
 | .e0 i k,h=>Tr.i0 (t:=k i) h
 | .f0 k,h=>λJ=>Tr.i0 (t:=k J) (h J)
theorem Tr.j0{R:Type}{Q Q':R->Prop}(hq:∀a,Q a->Q' a):∀{t:Tr R},t.wp Q->t.wp Q'
 | .a0 a,h=>hq a h
 | .c0,h=>h
 | .d0 b k,h=>Tr.j0 hq (t:=k b) h
 | .e0 i k,h=>Tr.j0 hq (t:=k i) h
 | .f0 k,h=>λJ=>Tr.j0 hq (t:=k J) (h J)
section
variable{R:Type}
def aT{α:Type}(x:Option α)(K:α->Tr R):Tr R:=match x with
 | some a=>K a
 | none=>.c0
def lu(b:Bool)(t:Tr R):Tr R:=.d0 b λd=>bif d then t else .c0
theorem ar{α:Type}{x:Option α}{K:α->Tr R}{s:R}(h:(aT x K).b0=some s):∃a,x=some a/\(K a).b0=some s:=by
 cases x with
 | none=>cases h
 | some a=>exact⟨a,rfl,h⟩
theorem bG{b:Bool}{t:Tr R}{s:R}(h:(lu b t).b0=some s):b/\t.b0=some s:=by
 cases b with
 | true=>exact⟨rfl,h⟩
 | false=>cases h
theorem dk{b:Bool}{t:Tr R}{s:R}(h:(bif b then t else Tr.c0).b0=some s):b/\t.b0=some s:=by
 cases b with
 | true=>grind
 | false=>cases h
def af(k:IntKind)(n:Int):Bool:=ab (eH k) n&&ab n (eE k)
def nA(k:IntKind)(n:Int)(K:AV->Tr R):Tr R:=.d0 (af k n) λb=>bif b then K (.a k n)else K (.a k (k.wrap n))
theorem qs{n:Int}{K:AV->Tr R}{s:R}(h:(nA k n K).b0=some s):∃v,iU k n=some v/\(K v).b0=some s:=by
 grind [nA,Tr.b0,iU,lk,DD,af]
def Ld(k:IntKind)(n:Nat)(K:AV->Tr R):Tr R:=lu (af k (.ofNat n)) (K (.a k (.ofNat n)))
theorem ach{K:AV->Tr R}{s:R}(h:(Ld k n K).b0=some s):∃v,iU k n=some v/\(K v).b0=some s:=by
 obtain⟨h1,h2⟩:=bG h;grind [af,iU,lk,DD]
abbrev E7(R:Type):Type:=IntKind->Int->Int->(AV->Tr R)->Tr R
def Ua:E7 R:=λk a b K=>nA k (Int.add a b) K
def W4:E7 R:=λk a b K=>nA k (Int.sub a b) K
def V7:E7 R:=λk a b K=>nA k (Int.mul a b) K
def Ur:E7 R:=λk a b K=>lu (!(aa b 0)) (nA k (Int.tdiv a b) K)
def Uf:E7 R:=λk a b K=>lu (!(aa b 0)) (K (.a k (Int.tmod a b)))
def oG(f:nV):E7 R:=λk a b K=>aT (f k a b) K
def B5:BinOp->E7 R
 | .add=>Ua
 | .sub=>W4
 | .mul=>V7
 | .quo=>Ur
 | .rem=>Uf
 | .and=>λk x y K=>Ld k (BitVec.ofInt k.bits x &&& BitVec.ofInt k.bits y).toNat K
 | .or=>λk x y K=>Ld k (BitVec.ofInt k.bits x ||| BitVec.ofInt k.bits y).toNat K
 | .xor=>λk x y K=>Ld k (BitVec.ofInt k.bits x ^^^ BitVec.ofInt k.bits y).toNat K
 | .andNot=>λk x y K=>Ld k (BitVec.ofInt k.bits x &&& ~~~BitVec.ofInt k.bits y).toNat K
 | .eql=>oG Tp
 | .neq=>oG QZ
 | .lss=>oG Qq
 | .leq=>oG Qr
 | .gtr=>oG QY
 | .geq=>oG Q_
 | .shl=>oG Ee
 | .shr=>oG Ee
theorem Ec{a b:Int}{K:AV->Tr R}{s:R}(h:(B5 op k a b K).b0=some s):∃v,Ck op k a b=some v/\(K v).b0=some s:=by
 have mk:∀{n:Int},(nA k n K).b0=some s->∃v,iU k n=some v/\(K v).b0=some s:=qs;cases op<;>simp only[B5,Ck]at h ⊢
 case add=>exact mk h
 case sub=>exact mk h
 case mul=>exact mk h
 case quo=>
  obtain⟨h1,h2⟩:=bG h;obtain⟨v,h3,h4⟩:=mk h2;exact⟨v,by rw[Q5,h1];exact h3,h4⟩
 case rem=>
  obtain⟨h1,h2⟩:=bG h;exact⟨_,by rw[Ti,h1,lk];rfl,h2⟩
 case and=>exact ach h
 case or=>exact ach h
 case xor=>exact ach h
 case andNot=>exact ach h
 all_goals exact ar h
def MP(op:BinOp)(k:IntKind)(a:Int)(y:AV)(K:AV->Tr R):Tr R:=match y with
 | .a k' b=>bif pI op then aT (Fw op k a b) K else bif zb k k' then B5 op k a b K else .c0
 | _=>.c0
theorem IA{a:Int}{K:AV->Tr R}{s:R}(h:(MP op k a y K).b0=some s):∃v,KF op k a y=some v/\(K v).b0=some s:=by
 cases y<;>simp only[MP]at h<;>first|(cases h;done)|skip
 simp only[KF];cases hs:pI op with
 | true=>simp_all [ar]
 | false=>
   rw[hs]at h;simp only[cond_false]at h ⊢;obtain⟨h1,h2⟩:=dk h;rw[h1];exact Ec h2
def KE(op:BinOp)(a:List UInt8)(y:AV)(K:AV->Tr R):Tr R:=match y with
 | .f b=>match op with
   | .add=>lu (Nat.ble (a.length+b.length) 1000000) (K (.f (a++b)))
   | op=>aT (Ra op (acg a b) (ae a b)) K
 | _=>.c0
theorem IQ{a:List UInt8}{K:AV->Tr R}{s:R}(h:(KE op a y K).b0=some s):∃v,Jg op a y=some v/\(K v).b0=some s:=by
 cases y<;>simp only[KE]at h<;>first|(cases h;done)|skip
 cases op<;>simp only[Jg]at h ⊢
 case add=>
  obtain⟨h1,h2⟩:=bG h;exact⟨_,by rw[h1];rfl,h2⟩
 all_goals exact ar h
end
section
variable(P:fm)
def o_(cmp:TypeId->AV->AV->Option Bool)(xs ys:List AV):List Field->Option Bool
 | []=>some true
 | f::fs=>ok (!(f.name == "_")) (ob (zc P f.type xs f.offset) λa=>ob (zc P f.type ys f.offset) λb=>ob (cmp f.type a b) λr=>ob (o_ cmp xs ys fs) λq=>some (r&&q))
def ry(cmp:AV->AV->Option Bool)(elem:TypeId)(n:Nat)(xs ys:List AV)(i:Nat):Nat->Option Bool
 | 0=>some true
 | k+1=>ob (zc P elem xs (i*n)) λa=>ob (zc P elem ys (i*n)) λb=>ob (cmp a b) λr=>ob (ry cmp elem n xs ys (i+1) k) λq=>some (r&&q)
def FW(cmp:TypeId->AV->AV->Option Bool)(t:TypeId)(xs ys:List AV):Option TypeDesc->Option Bool
 | some (.struct fields)=>ob (P.ty.c0 t) λe=>ok (!e.a0) (o_ P cmp xs ys fields.toList)
 | some (.array len elem)=>ob (gT P elem) λn=>ry P (cmp elem) elem n xs ys 0 len
 | _=>none
def Jo(cmp:TypeId->AV->AV->Option Bool)(t:TypeId)(xs:List AV):AV->Option Bool
 | .g ys=>FW P cmp t xs ys (P.a0 t)
 | _=>none
def Wn(cmp:TypeId->AV->AV->Option Bool)(t:TypeId)(x y:AV):Option Bool:=match x with
 | .e a=>Cb P t a y
 | .a k a=>FH P t k a y
 | .f a=>Ex P t a y
 | .g xs=>Jo P cmp t xs y
 | .l a u=>nZ P cmp t a u y
 | x=>DG (P.a0 t) x y
def sM:Nat->TypeId->AV->AV->Option Bool
 | 0,_,_,_=>none
 | d+1,t,x,y=>Wn P (sM d) t x y
theorem sA{c c':TypeId->AV->AV->Option Bool}(hc:∀t a b r,c t a b=some r->c' t a b=some r){xs ys:List AV}:∀{fs:List Field} {r:Bool},o_ P c xs ys fs=some r->jd P c' xs ys fs=some r
 | [],r,h=>h
 | f::fs,r,h=>by
   simp only[o_,aA,ag,ξ]at h;obtain⟨h0,a,ha,b,hb,q,hq,q',hq',rfl⟩:=h;have:=sA hc hq';grind [jd,aA,ag]
theorem vV{c c':AV->AV->Option Bool}(hc:∀a b r,c a b=some r->c' a b=some r){elem:TypeId}{n:Nat}{xs ys:List AV}:∀{k i:Nat} {r:Bool},ry P c elem n xs ys i k=some r->kO P c' elem n xs ys i k=some r
 | 0,i,r,h=>h
 | k+1,i,r,h=>by
   simp only[ry,ag,ξ]at h;obtain⟨a,ha,b,hb,q,hq,q',hq',rfl⟩:=h;have:=vV hc hq';grind [kO,ag]
theorem EL:∀{d:Nat} {t:TypeId} {x y:AV} {r:Bool},sM P d t x y=some r->N5 P d t x y=some r
 | 0,t,x,y,r,h=>by cases h
 | d+1,t,x,y,r,h=>by
   have ih:∀t a b r,sM P d t a b=some r->N5 P d t a b=some r:=λt a b r=>EL;unfold sM Wn at h;unfold N5 MY;cases x<;>simp only at h ⊢<;>first|exact h|skip
   . rename_i a u;unfold nZ at h ⊢;cases y<;>simp only at h ⊢<;>first|exact h|skip
     grind [aA,ag]
   . unfold Jo at h;unfold EI;cases y<;>simp only[reduceCtorEq]at h ⊢;generalize P.a0 t=dd at h ⊢;unfold FW at h;grind [BV,ag,aA,sA,vV]
variable{R:Type}
def MS(op:BinOp)(t:TypeId)(xo yo:Operand)(x y:AV)(K:AV->Tr R):Tr R:=match x with
 | .a k a=>MP op k a y K
 | .f a=>KE op a y K
 | x=>aT (C3 op (ok (jK P t xo yo x y) (sM P 100 t x y))) K
theorem Ig{t:TypeId}{xo yo:Operand}{K:AV->Tr R}{s:R}(h:(MS P op t xo yo x y K).b0=some s):∃v,JC P op t xo yo x y=some v/\(K v).b0=some s:=by
 have other:∀{x:AV},(aT (C3 op (ok (jK P t xo yo x y) (sM P 100 t x y))) K).b0=some s->∃v,C3 op (ok (jK P t xo yo x y) (N5 P 100 t x y))=some v/\(K v).b0=some s:=λh=>by
  obtain⟨v,hv,hk⟩:=ar h;refine⟨v,?_,hk⟩;unfold C3 at hv ⊢;grind [ag,aA,EL]
 unfold MS at h;grind [JC,IA,IQ]
def Tg(op:UnOp)(x:AV)(K:AV->Tr R):Tr R:=match x with
 | .a k n=>match op with
   | .neg=>nA k (Int.sub 0 n) K
   | op=>aT (UC op (.a k n)) K
 | .e b=>match op with
   | .not=>K (.e !b)
   | _=>.c0
 | _=>.c0
theorem Js{op:UnOp}{K:AV->Tr R}{s:R}(h:(Tg op x K).b0=some s):∃v,UC op x=some v/\(K v).b0=some s:=by
 unfold Tg at h;cases x<;>simp only at h<;>first|(cases h;done)|skip
 . cases op<;>simp only at h<;>first|(cases h;done)|exact⟨_,rfl,h⟩
 . cases op<;>simp only at h<;>first|exact ar h|skip
   exact qs h
def Jm(a b:Option AV)(c:AV)(K:AV->Tr R):Tr R:=match c with
 | .e d=>.d0 d λe=>aT (bif e then a else b) K
 | _=>.c0
theorem HI{a b:Option AV}{c:AV}{K:AV->Tr R}{s:R}(h:(Jm a b c K).b0=some s):∃v,Gd a b c=some v/\(K v).b0=some s:=by
 unfold Jm at h;cases c<;>simp only at h<;>first|(cases h;done)|skip
 rename_i d;simp only[Tr.b0]at h;cases d<;>exact ar h
def eB(k:IntKind):AV->Bool
 | .a k' _=>zb k' k
 | _=>false
def dx:AV->Int
 | .a _ n=>n
 | _=>0
def Sn:AV->Bool
 | .e _=>true
 | _=>false
def KK:AV->Bool
 | .e b=>b
 | _=>false
def Iq:AV->Bool
 | .f _=>true
 | _=>false
def C9:AV->List UInt8
 | .f s=>s
 | _=>[]
theorem IC(h:eB k v):v=.a k (dx v):=by
 cases v<;>simp only[eB,ν]at h;rw[iv]at h;rw[h];rfl
theorem Ia(h:Sn v):v=.e (KK v):=by cases v<;>simp only[Sn,ν]at h;rfl
theorem H8(h:Iq v):v=.f (C9 v):=by cases v<;>simp only[Iq,ν]at h;rfl
theorem getD_some{cs:List AV}{i:Nat}(h:cs.getD i bt=v)(hv:v≠bt):cs[i]? = some v:=by
 grind
def GR(z:AV)(cs:List AV)(off:Nat)(K:AV->Tr R):Tr R:=match z with
 | .a k _=>lu (eB k (cs.getD off bt)) (K (.a k (dx (cs.getD off bt))))
 | .e _=>lu (Sn (cs.getD off bt)) (K (.e (KK (cs.getD off bt))))
 | .f _=>lu (Iq (cs.getD off bt)) (K (.f (C9 (cs.getD off bt))))
 | _=>.e0 off λj=>aT cs[j]? K
theorem AG{z:AV}{cs:List AV}{K:AV->Tr R}{s:R}(h:(GR z cs off K).b0=some s):∃v,cs[off]? = some v/\(K v).b0=some s:=by
 have other:(Tr.e0 off λj=>aT cs[j]? K).b0=some s->∃v,cs[off]? = some v/\(K v).b0=some s:=λh=>ar h;unfold GR at h;grind [bG,Ia,bt,IC,H8]
def FS(cs:List AV):List AV->Nat->(List AV->Tr R)->Tr R
 | [],_,K=>K []
 | z::zs,off,K=>GR z cs off λv=>FS cs zs (off+1) λvs=>K (v::vs)
theorem xZ{cs:List AV}:∀{zs:List AV} {off:Nat} {K:List AV->Tr R} {s:R},(FS cs zs off K).b0=some s->∃vs,vs.length=zs.length/\(∀i,i<zs.length->cs[off+i]? = vs[i]?)/\(K vs).b0=some s
 | [],off,K,s,h=>⟨[],rfl,λi hi=>absurd hi (Nat.not_lt_zero i),h⟩
 | z::zs,off,K,s,h=>by
   obtain⟨v,hv,h⟩:=AG h;obtain⟨vs,h1,h2,h⟩:=xZ h;grind
theorem Jt{cs vs:List AV}(h1:vs.length=n)(h2:∀i,i<n->cs[off+i]? = vs[i]?):jW cs off n=some vs:=by
 have e:(cs.drop off).take n=vs:=by
  apply List.ext_getElem?;grind
 rw[jW,e,gm h1];rfl
def L7(t:TypeId)(cs:List AV)(off:Nat)(K:AV->Tr R):Tr R:=
 aT (P.a0 t) λd=>bif xN (some d)then aT (gT P t) λn=>aT (lA P t) λz=>bif π (bU z).length n then FS cs (bU z) off λvs=>K (.g vs)else .c0
  else aT (lA P t) λz=>GR z cs off K
theorem AR{t:TypeId}{cs:List AV}{K:AV->Tr R}{s:R}(h:(L7 P t cs off K).b0=some s):∃v,zc P t cs off=some v/\(K v).b0=some s:=by
 obtain⟨d,hd,h⟩:=ar h;unfold zc;simp only[hd,ob];cases ha:xN (some d)with
 | true=>
   rw[ha,cond_true]at h;rw[cond_true];obtain⟨n,hn,h⟩:=ar h;obtain⟨z,hz,h⟩:=ar h;obtain⟨hl,h⟩:=dk h;rw[cQ]at hl;obtain⟨vs,h1,h2,h⟩:=xZ h;exact⟨_,by simp only[hn,Jt (h1.trans hl) λi hi=>h2 i δ],h⟩
 | false=>
   rw[ha,cond_false]at h;rw[cond_false];obtain⟨z,hz,h⟩:=ar h;exact AG h
def KP(i:AV)(K:Nat->Tr R):Tr R:=match i with
 | .a _ n=>lu (ab 0 n) (K n.toNat)
 | _=>.c0
theorem yp{i:AV}{K:Nat->Tr R}{s:R}(h:(KP i K).b0=some s):∃n,HG i=some n/\(K n).b0=some s:=by
 unfold KP at h;cases i<;>simp only at h<;>first|(cases h;done)|skip
 rename_i k n;obtain⟨h1,h2⟩:=bG h;have hn:0<=n:=by grind [q5]
 refine⟨_,?_,h2⟩;obtain⟨j,rfl⟩:∃j:Nat,n=Int.ofNat j:=⟨n.toNat,(Int.toNat_of_nonneg hn).symm⟩;rfl
def JG(hi:Nat)(v:AV)(K:Nat->Tr R):Tr R:=KP v λn=>lu (Nat.ble n hi) (K n)
theorem abZ{hi:Nat}{K:Nat->Tr R}{s:R}(h:(JG hi v K).b0=some s):∃n,zR hi v=some n/\(K n).b0=some s:=by
 obtain⟨n,h1,h⟩:=yp h;obtain⟨h2,h⟩:=bG h;refine⟨n,?_,h⟩;unfold HG at h1;split at h1<;>grind [zR,ok]
def i_(most dflt:Nat)(v:Option AV)(K:Nat->Tr R):Tr R:=match v with
 | none=>K dflt
 | some v=>JG most v K
theorem dS{most dflt:Nat}{v:Option AV}{K:Nat->Tr R}{s:R}(h:(i_ most dflt v K).b0=some s):∃n,kL most dflt v=some n/\(K n).b0=some s:=by
 cases v with
 | none=>exact⟨dflt,rfl,h⟩
 | some v=>exact abZ h
def BF{α:Type}(b:Bool)(x y:α)(K:α->Tr R):Tr R:=.d0 b λd=>bif d then K x else K y
theorem oF{α:Type}{b:Bool}{x y:α}{K:α->Tr R}{s:R}(h:(BF b x y K).b0=some s):(K (bif b then x else y)).b0=some s:=by
 cases b<;>exact h
def A6(id off size m h l:Nat)(K:AV->Tr R):Tr R:=BF (π m l) (AV.b id off (h-l) (.b (m-l))) (.b id (off+l*size) (h-l) (.b (m-l))) K
def Ib(s:List UInt8)(lo hi:Option AV)(K:AV->Tr R):Tr R:=i_ s.length s.length hi λh=>i_ h 0 lo λl=>K (.f ((s.take h).drop l))
def abd(size id off len c:Nat)(lo hi max:Option AV)(K:AV->Tr R):Tr R:=
 bif max.isNone || hi.isSome then i_ c c max λm=>i_ m len hi λh=>i_ h 0 lo λl=>A6 id off size m h l K else .c0
theorem nO{len c:Nat}{lo hi max:Option AV}{K:AV->Tr R}{s:R}(h:(abd size id off len c lo hi max K).b0=some s):∃v,jh size id off len c lo hi max=some v/\(K v).b0=some s:=by
 obtain⟨h0,h⟩:=dk h;obtain⟨m,hm,h⟩:=dS h;obtain⟨h',hh,h⟩:=dS h;obtain⟨l,hl,h⟩:=dS h;exact⟨_,by grind [jh,ok,ob,jn],oF h⟩
def qR(size id off k h l:Nat)(K:AV->Tr R):Tr R:=.d0 (π l 0) λb=>bif b then K (.b id off h (.a k))else lu (aS l h) (K (.b id (off+l*size) (h-l) (.a (k+l))))
theorem y5{k h' l:Nat}{K:AV->Tr R}{s:R}(h:(qR size id off k h' l K).b0=some s):∃v,ph size id off k h' l=some v/\(K v).b0=some s:=by
 grind [qR,ph,Tr.b0,bG,ok]
def Ar(size id off len:Nat)(lo hi max:Option AV)(c:fg)(K:AV->Tr R):Tr R:=match c with
 | .b c=>abd size id off len c lo hi max K
 | .a k=>match max with
   | none=>i_ len len hi λh=>i_ h 0 lo λl=>qR size id off k h l K
   | some mx=>bif hi.isSome then JG len mx λm=>i_ m len hi λh=>i_ h 0 lo λl=>A6 id off size m h l K else .c0
def xa(t:TypeId)(lo hi mx:Option AV)(v:AV)(K:AV->Tr R):Tr R:=match v with
 | .h id off=>aT (Ds P t) λne=>aT (gT P ne.2) λsize=>abd size id off ne.1 ne.1 lo hi mx K
 | .f s=>bif zO P t&&mx.isNone then Ib s lo hi K else .c0
 | .d=>aT (kr P t) λe=>aT (gT P e) λ_=>bif mx.isNone || hi.isSome then i_ 0 0 mx λ_=>i_ 0 0 hi λ_=>i_ 0 0 lo λ_=>K .d else .c0
 | .b id off len c=>aT (kr P t) λe=>aT (gT P e) λsize=>Ar size id off len lo hi mx c K
 | _=>.c0
theorem B4{t:TypeId}{lo hi mx:Option AV}{K:AV->Tr R}{s:R}(h:(xa P t lo hi mx v K).b0=some s):∃r,sw P t lo hi mx v=some r/\(K r).b0=some s:=by
 unfold xa at h;unfold sw;cases v<;>simp only at h<;>first|(cases h;done)|skip
 case h id off=>
  obtain⟨ne,h1,h⟩:=ar h;obtain⟨size,h2,h⟩:=ar h;grind [nO,ob]
 case f s=>
  obtain⟨h1,h⟩:=dk h;obtain⟨a,ha,h⟩:=dS h;grind [dS,ok,xI,ob]
 case d=>
  obtain⟨e,h1,h⟩:=ar h;obtain⟨sz,h2,h⟩:=ar h;obtain⟨h3,h⟩:=dk h;obtain⟨a,ha,h⟩:=dS h;obtain⟨b,hb,h⟩:=dS h;grind [dS,ob,xV,ok]
 case b id off len c=>
  obtain⟨e,h1,h⟩:=ar h;obtain⟨size,h2,h⟩:=ar h;simp only[h1,ob,h2];unfold Ar at h;unfold og;cases c with
  | b c=>exact nO h
  | a k=>
    cases mx with
    | none=>
      grind [dS,y5,vu,ob]
    | some mx=>
      obtain⟨h3,h⟩:=dk h;obtain⟨a,ha,h⟩:=abZ h;obtain⟨b,hb,h⟩:=dS h;obtain⟨c,hc,h⟩:=dS h;exact⟨_,by grind [nq,ok,ob,jn],oF h⟩
def F8:List AV->List AV->List AV
 | cs,[]=>cs
 | [],_::_=>[]
 | _::cs,v::vs=>v::F8 cs vs
def JL:List AV->Nat->List AV->List AV
 | cs,0,vs=>F8 cs vs
 | [],_+1,_=>[]
 | c::cs,n+1,vs=>c::JL cs n vs
theorem DQ:∀{cs vs:List AV},vs.length<=cs.length->qh cs vs=some (F8 cs vs)
 | cs,[],_=>by cases cs<;>rfl
 | [],v::vs,h=>by grind
 | c::cs,v::vs,h=>by simp only[qh,DQ (cs:=cs) (vs:=vs) η,ob,F8]
theorem Hv:∀{cs:List AV} {n:Nat} {vs:List AV},n+vs.length<=cs.length->adi cs n vs=some (JL cs n vs)
 | cs,0,vs,h=>by grind [adi.eq_def,JL.eq_def,DQ]
 | [],n+1,vs,h=>by grind
 | c::cs,n+1,vs,h=>by simp only[adi,Hv (cs:=cs) (n:=n) (vs:=vs) η,ob,JL]
def NF(off:Nat)(vs:List AV)(x:cD)(K:cD->Tr R):Tr R:=match x with
 | .a cs true g=>lu (Nat.ble (off+vs.length) cs.length) (K (.a (JL cs off vs) true g))
 | _=>.c0
theorem Dh{vs:List AV}{x:cD}{K:cD->Tr R}{s:R}(h:(NF off vs x K).b0=some s):∃y,yr off vs x=some y/\(K y).b0=some s:=by
 unfold NF at h;split at h
 . grind [bG,eK,yr,Hv,ob]
 . cases h
def GC(cs:List AV)(off n:Nat)(K:List AV->Tr R):Tr R:=lu (Nat.ble (off+n) cs.length) (K ((cs.drop off).take n))
theorem ti{cs:List AV}{K:List AV->Tr R}{s:R}(h:(GC cs off n K).b0=some s):∃vs,jW cs off n=some vs/\(K vs).b0=some s:=by
 obtain⟨h1,h⟩:=bG h;rw[eK]at h1;exact⟨_,by rw[jW,gm η];rfl,h⟩
def Sw:AV->Bool
 | .a .u8 n=>ab 0 n&&ab n 255
 | _=>false
def M8(v:AV):UInt8:=UInt8.ofNat (dx v).toNat
theorem Is(h:Sw v):ya v=some (M8 v):=by
 unfold Sw at h;grind [q5,ya,aU,ok,M8,dx]
def F4:List AV->Bool
 | []=>true
 | v::vs=>Sw v&&F4 vs
theorem xn:∀{vs:List AV},F4 vs->mI vs=some (vs.map M8)
 | [],_=>rfl
 | v::vs,h=>by
   rw[F4,ο]at h;simp only[mI,Is h.1,ob,xn h.2,List.map_cons]
end
abbrev sL(R:Type):Type:=fm->bg->(Operand->Option AV)->aB->(AV×aB->Tr R)->Tr R
section
variable{R:Type}
def Sy(op:BinOp)(t:TypeId)(x y:Operand):sL R:=λP C ρ o K=>aT (ρ x) λa=>aT (ρ y) λb=>MS P op t x y a b λv=>K (v,o)
def UT(op:UnOp)(x:Operand):sL R:=λP C ρ o K=>aT (ρ x) λa=>Tg op a λv=>K (v,o)
def N6(c a b:Operand):sL R:=λP C ρ o K=>aT (ρ c) λcv=>Jm (ρ a) (ρ b) cv λv=>K (v,o)
def P7(P:fm)(C:bg)(o:aB)(src dst:TypeId)(v:AV)(K:AV×aB->Tr R):Tr R:=match v with
 | .a _ n=>bif (P.a0 src).isSome then(match P.a0 dst with
   | some (.int k)=>nA k n λv=>K (v,o)
   | d=>aT (gS o (w7 n d)) K)else .c0
 | .f s=>bif zF (P.a0 src)then(match P.a0 dst with
   | some .string=>K (.f s,o)
   | some (.slice e)=>lu (mT (P.a0 e)&&Nat.ble s.length 1000000) (K (.b (o.b0 C) 0 s.length (.a 0),o.a0 (.a (s.map jx) false none)))
   | _=>.c0)else .c0
 | .b id off len _=>aT (Di (P.a0 src)) λe=>bif mT (P.a0 e)&&zF (P.a0 dst)then aT (cellsOf (fB C o id)) λcs=>GC cs off len λbs=>lu (F4 bs) (K (.f (bs.map M8),o))else .c0
 | v=>aT (jA P C o src dst v) K
def Fb(src dst:TypeId)(x:Operand):sL R:=λP C ρ o K=>aT (ρ x) λv=>P7 P C o src dst v K
def Gj(P:fm)(t:TypeId)(n:Nat)(v:AV)(K:AV->Tr R):Tr R:=match v with
 | .g cs=>aT (Ds P t) λne=>lu (aS n ne.1) (aT (gT P ne.2) λsz=>L7 P ne.2 cs (n*sz) K)
 | .f s=>bif zO P t then lu (aS n s.length) (K (jx (s.getD n 0)))else .c0
 | _=>.c0
def KV(t:TypeId)(x ix:Operand):sL R:=λP C ρ o K=>aT (ρ x) λv=>aT (ρ ix) λi=>KP i λn=>Gj P t n v λr=>K (r,o)
def vD(P:fm)(t:TypeId)(n:Nat)(v:AV)(K:AV->Tr R):Tr R:=match v with
 | .h id off=>aT (Ds P t) λne=>lu (aS n ne.1) (aT (gT P ne.2) λsz=>K (.h id (off+n*sz)))
 | .b id off len _=>aT (kr P t) λe=>lu (aS n len) (aT (gT P e) λsz=>K (.h id (off+n*sz)))
 | _=>.c0
def BS(t:TypeId)(x ix:Operand):sL R:=λP C ρ o K=>aT (ρ x) λv=>aT (ρ ix) λi=>KP i λn=>vD P t n v λr=>K (r,o)
def I_(t:TypeId)(x:Operand)(lo hi mx:Option Operand):sL R:=λP C ρ o K=>
 aT (ρ x) λv=>aT (adk ρ lo) λl=>aT (adk ρ hi) λh=>aT (adk ρ mx) λm=>xa P t l h m v λr=>K (r,o)
def Bs(t:TypeId)(l c:Operand):sL R:=λP C ρ o K=>aT (ρ l) λlv=>aT (ρ c) λcv=>
 aT (kr P t) λelem=>aT (gT P elem) λn=>aT (lA P elem) λz=>JG 10000 cv λcn=>JG cn lv λln=>
  bif π (bU z).length n&&aS 0 n&&Nat.ble n 10000&&s_ P elem&&dM (bU z)then K (.b (o.b0 C) 0 ln (.b cn),o.a0 (.a (mX (bU z) cn) true none))else .c0
def Od(t:TypeId)(a:Operand):sL R:=λP C ρ o K=>aT (ρ a) λp=>match p with
 | .h id off=>aT (cellsOf (fB C o id)) λcs=>L7 P t cs off λv=>K (v,o)
 | _=>.c0
def J8(t:TypeId)(a x:Operand):sL R:=λP C ρ o K=>aT (ρ a) λp=>aT (ρ x) λv=>match p with
 | .h id off=>aT (gT P t) λn=>bif π (bU v).length n&&dM (bU v)then aT (dQ C o id) λx=>NF off (bU v) x λx'=>K (bt,lD C o id x')else .c0
 | _=>.c0
def aet(C:bg)(o:aB)(id:Nat)(x:cD)(K:AV×aB->Tr R):Tr R:=match x with
 | .d s pos=>.d0 (aS pos s.length) λb=>bif b then K (.c [.e true,.a .i64 (.ofNat pos),.a .i32 (.ofNat (Utf8.decode ⟨⟨s⟩⟩ pos).1)],lD C o id (.d s (pos+(Utf8.decode ⟨⟨s⟩⟩ pos).2)))else K (.c [.e false],o)
 | _=>.c0
def Nc(it:Operand)(st:Bool):sL R:=λP C ρ o K=>bif st then aT (ρ it) λv=>match v with
 | .h id off=>bif π off 0 then aT (dQ C o id) λx=>aet C o id x K else .c0
 | _=>.c0
 else .c0
def KZ(k:AV):List (AV×AV)->(Option AV->Tr R)->Tr R
 | [],K=>K none
 | e::es,K=>aT (yU k e.1) λr=>.d0 r λb=>bif b then K (some e.2)else KZ k es K
def IK(t:TypeId)(x ix:Operand)(okv:Bool):sL R:=λP C ρ o K=>aT (ρ x) λm=>aT (ρ ix) λk=>aT (H3 (P.a0 t)) λke=>bif sG k (P.a0 ke.1)then(match m with
 | .q id=>aT (lX (fB C o id)) λes=>KZ k es λr=>match r with
   | some v=>K (py okv v true,o)
   | none=>aT (lA P ke.2) λz=>K (py okv z false,o)
 | _=>.c0)else .c0
def GD(op:Op):sL R:=λP C ρ o K=>aT (gW op P C ρ o) K
def Fu:Op->sL R
 | .pick c a b=>N6 c a b
 | .binOp op t x y _=>Sy op t x y
 | .unOp op _ x=>UT op x
 | .convert src dst x=>Fb src dst x
 | .makeSlice t l c=>Bs t l c
 | .slice t x lo hi mx=>I_ t x lo hi mx
 | .indexAddr t x ix=>BS t x ix
 | .index t x ix=>KV t x ix
 | .load t a=>Od t a
 | .store t a x=>J8 t a x
 | .next it s=>Nc it s
 | .lookup t x ix okv=>IK t x ix okv
 | op=>GD op
theorem jl{o:aB}{x:Option AV}(h:x=some v):gS o x=some (v,o):=by rw[h];rfl
theorem AM{k:AV}:∀{es:List (AV×AV)} {K:Option AV->Tr R} {s:R},(KZ k es K).b0=some s->∃r,qq k es=some r/\(K r).b0=some s
 | [],K,s,h=>⟨none,rfl,h⟩
 | e::es,K,s,h=>by
   obtain⟨r,hr,h⟩:=ar h;simp only[Tr.b0]at h;simp only[qq,hr,ob];cases r with
   | true=>grind
   | false=>exact AM h
theorem N4{op:Op}{P:fm}{C:bg}{ρ:Operand->Option AV}{o:aB}{K:AV×aB->Tr R}{s:R}(h:(Fu op P C ρ o K).b0=some s):∃r,Eo P C ρ o op=some r/\(K r).b0=some s:=by
 unfold Eo;cases op<;>simp only[Fu,GD]at h<;>first|exact ar h|skip
 case pick c a b=>
  obtain⟨cv,hc,h⟩:=ar h;obtain⟨v,hv,h⟩:=HI h;simp_all [gW,xT,jl,ag]
 case binOp op t x y e=>
  obtain⟨a,ha,h⟩:=ar h;obtain⟨b,hb,h⟩:=ar h;obtain⟨v,hv,h⟩:=Ig P h;simp_all [gW,DX,jl,ag]
 case unOp op t x=>
  obtain⟨a,ha,h⟩:=ar h;obtain⟨v,hv,h⟩:=Js h;simp_all [gW,Kp,jl,ag]
 case convert src dst x=>
  obtain⟨v,hv,h⟩:=ar h;simp only[gW,ip,hv,ob];unfold P7 at h;cases v<;>simp only at h<;>first|exact ar h|skip
  case a k n=>
   obtain⟨h1,h⟩:=dk h;simp only[jA,h1];split at h
   . rename_i k hk;rw[hk];obtain⟨v,h2,h3⟩:=qs h;exact⟨_,by simp only[ok,cond_true];exact jl h2,h3⟩
   simp_all [ar,ok]
  case f str=>
   obtain⟨h1,h⟩:=dk h;simp only[jA,h1,ok,cond_true];split at h
   . rename_i hk;rw[hk];exact⟨_,rfl,h⟩
   . grind [bG,o8,ok]
   . cases h
  case b id off len c=>
   obtain⟨e,he,h⟩:=ar h;obtain⟨h1,h⟩:=dk h;obtain⟨cs,hc,h⟩:=ar h;obtain⟨bs,hb,h⟩:=ti h;obtain⟨h2,h⟩:=bG h;simp_all [jA,po,ob,ok,mA,xn,gS]
 case makeSlice t l c=>
  obtain⟨lv,hl,h⟩:=ar h;obtain⟨cv,hc,h⟩:=ar h;obtain⟨e,he,h⟩:=ar h;obtain⟨n,hn,h⟩:=ar h;obtain⟨z,hz,h⟩:=ar h;obtain⟨cn,h1,h⟩:=abZ h;obtain⟨ln,h2,h⟩:=abZ h;obtain⟨h3,h⟩:=dk h;exact⟨_,by simp only[gW,ik,hl,hc,ob,na,he,hn,hz,h1,h2,h3,ok,cond_true],h⟩
 case slice t x lo hi mx=>
  obtain⟨v,hv,h⟩:=ar h;obtain⟨l,hl,h⟩:=ar h;obtain⟨hh,hhe,h⟩:=ar h;obtain⟨m,hm,h⟩:=ar h;obtain⟨r,hr,h⟩:=B4 P h;simp_all [gW,sg,ob,jl]
 case indexAddr t x ix=>
  obtain⟨v,hv,h⟩:=ar h;obtain⟨i,hi,h⟩:=ar h;obtain⟨n,hn,h⟩:=yp h;simp only[gW,jq,hv,hi,ob,hn];unfold vD at h;cases v<;>simp only at h<;>first|(cases h;done)|skip
  . obtain⟨ne,h1,h⟩:=ar h;obtain⟨h2,h⟩:=bG h;obtain⟨sz,h3,h⟩:=ar h;grind [jl,aau,ob,ok]
  . obtain⟨ne,h1,h⟩:=ar h;obtain⟨h2,h⟩:=bG h;obtain⟨sz,h3,h⟩:=ar h;grind [jl,aau,ob,ok]
 case index t x ix=>
  obtain⟨v,hv,h⟩:=ar h;obtain⟨i,hi,h⟩:=ar h;obtain⟨n,hn,h⟩:=yp h;simp only[gW,rz,hv,hi,ob,hn];unfold Gj at h;cases v<;>simp only at h<;>first|(cases h;done)|skip
  . rename_i str;obtain⟨h1,h⟩:=dk h;obtain⟨h2,h⟩:=bG h;rw[aU]at h2;refine⟨_,jl ?_,h⟩;simp only[yk,h1,ok,cond_true];rw[List.getD_eq_getElem?_getD,List.getElem?_eq_getElem h2];rfl
  . obtain⟨ne,h1,h⟩:=ar h;obtain⟨h2,h⟩:=bG h;obtain⟨sz,h3,h⟩:=ar h;obtain⟨r,h4,h⟩:=AR P h;exact⟨_,jl (by simp only[yk,h1,ob,h2,ok,cond_true,h3,h4]),h⟩
 case load t a=>
  obtain⟨p,hp,h⟩:=ar h;cases p<;>simp only at h<;>first|(cases h;done)|skip
  obtain⟨cs,hc,h⟩:=ar h;obtain⟨v,hv,h⟩:=AR P h;exact⟨_,by simp only[gW,tN,hp,ob,ab2,hc];exact jl hv,h⟩
 case store t a x=>
  obtain⟨p,hp,h⟩:=ar h;obtain⟨v,hv,h⟩:=ar h;cases p<;>simp only at h<;>first|(cases h;done)|skip
  obtain⟨n,hn,h⟩:=ar h;obtain⟨h1,h⟩:=dk h;obtain⟨y,hy,h⟩:=ar h;obtain⟨z,hz,h⟩:=Dh h;exact⟨_,by simp only[gW,oY,hp,hv,ob,yO,hn,h1,ok,cond_true,jO,hy,hz],h⟩
 case next it st=>
  obtain⟨h1,h⟩:=dk h;obtain⟨v,hv,h⟩:=ar h;cases v<;>simp only at h<;>first|(cases h;done)|skip
  obtain⟨h2,h⟩:=dk h;rw[cQ]at h2;subst h2;obtain⟨x,hx,h⟩:=ar h;unfold aet at h;split at h
  . rename_i str pos;simp only[Tr.b0]at h;have hd:∀n,H0 .i32 .ofNat n=.a .i32 (.ofNat n):=λn=>by cases n<;>rfl
    have hg:goInt pos=.a .i64 (.ofNat pos):=by cases pos<;>rfl
    cases hb:aS pos str.length with
    | true=>
      rw[hb,cond_true]at h;exact⟨_,by simp only[gW,qS,h1,ok,cond_true,hv,ob,DN,hx,ace,Dl,hb,hd,hg],h⟩
    | false=>
      rw[hb,cond_false]at h;exact⟨_,by simp only[gW,qS,h1,ok,cond_true,hv,ob,DN,hx,ace,Dl,hb,cond_false],h⟩
  . cases h
 case lookup t x ix okv=>
  obtain⟨mv,hm,h⟩:=ar h;obtain⟨k,hk,h⟩:=ar h;obtain⟨ke,hke,h⟩:=ar h;obtain⟨h1,h⟩:=dk h;cases mv<;>simp only at h<;>first|(cases h;done)|skip
  obtain⟨es,he,h⟩:=ar h;obtain⟨r,hr,h⟩:=AM h;simp only[gW,oe,hm,hk,ob,C_,hke,h1,ok,cond_true,rX,he,hr];cases r with
  | some v=>exact⟨_,rfl,h⟩
  | none=>
    obtain⟨z,hz,h⟩:=ar h;exact⟨_,by simp only[hz,gS,ob],h⟩
end
end Go.Ev
