import Derived.Test.YtafekjglclnegaaGreatDoorP11
set_option linter.all false
section
namespace Go.Ev
open Go Go.RowKit
section
variable {P:Program} {T:Tab} (hT:TabOK P T) {cfg:Cfg} (hK:CfgOK cfg) {code:Ctx->Code->St->Option (AX×St)} (hcode:CodeOK P cfg code) (hll:CodeLL code)
include hT hK hcode hll
theorem callP_ok {f:FuncId} {fn:Func} {c:Code} (hb:bodyOf T f=some (fn,c)) {C:Ctx} {D:Nat->Prop} {m:Nat->Loc} {args:List AV} {o:Own} {w:World} {v:AV} (hbl:belowL cfg.root.n args=true) (h:callP T cfg code fn c args=some v)
 (hi:Inv cfg D m C o w) (hok:okL D m args):CallS P f (concL m args).toArray w fun V w'=>V=conc m v/\okV D m v/\Ext cfg C D m o w D m o w'/\Mute D w D m w':=by
 simp only [callP,ob_some,ok_some,Option.some.injEq] at h
 obtain ⟨r,he,hbe,rfl⟩:=h
 have hg:∀id,id<cfg.root.n->get ⟨[(0,cfg.root)],cfg.root.n⟩ ⟨0,[],[]⟩ id=cfg.root.at id:=fun id hid=>by
  rw [get,getB,bleF (by omega:¬cfg.root.n≤id)]
  simp only [cond_false,leAt,getB]
  rw [ble_iff.2 (Nat.zero_le _),cond_true,Nat.sub_zero]
 have hi0:Inv cfg (fun id=>D id/\id<cfg.root.n) m ⟨[(0,cfg.root)],cfg.root.n⟩ ⟨0,[],[]⟩ w:=by
  refine ⟨fun id hd=>?_,fun i j hdi hdj hij hl hr=>?_,fun id hd=>hd.2,fun g hg'=>?_,fun id hid=>?_,fun id hid=>(by cases hid),Nat.le_refl _,rfl⟩
  · rw [hg id hd.2,←(hi.root id hd.2).2]
    refine (hi.obj id hd.1).narrow (by rw [(hi.root id hd.2).2];exact hK.loops id hd.2) fun i hm hD=>⟨hD,?_⟩
    rw [(hi.root id hd.2).2] at hm
    exact hK.root id hd.2 i hm
  · rw [hg i hdi.2,←(hi.root i hdi.2).2] at hl
    rw [hg j hdj.2,←(hi.root j hdj.2).2] at hr
    exact hi.inj i j hdi.1 hdj.1 hij hl hr
  · obtain ⟨a1,a2,a3⟩:=hi.glob g hg'
    exact ⟨⟨a1,Nat.lt_of_lt_of_le hg' hK.G⟩,a2,a3⟩
  · exact ⟨⟨(hi.root id hid).1,hid⟩,hg id hid⟩
 refine .inl (enter_ok hT hcode hb he hi0 (fun i hm=>⟨⟨(hok i hm).1,belowL_ok hbl i hm⟩,(hok i hm).2⟩) fun D' m' w' hv hx=>?_)
 refine quiet_back hi hx (fun i hd=>hd.1) (fun i hd hs=>?_) hv fun i hm hd'=>?_
 · unfold own? at hs
   rw [bleF (by have:=hd.2;simp only;omega)] at hs
   simp [leAt] at hs
 · rcases hx.new i.1 hd' with hd|hge
   · exact hd
   · have:=belowA_ok 20 hbe i hm
     simp only at hge
     omega
theorem callN_ok {f:FuncId} {fn:Func} {c:Code} (hb:bodyOf T f=some (fn,c)) {C:Ctx} {D:Nat->Prop} {m:Nat->Loc} {args:List AV} {o:Own} {w:World} {ids:List Nat} (hids:∀i∈ids,D i) {r:AV×Own} (h:callN T code C fn c args o (lendA C o ids)=some r)
 (hi:Inv cfg D m C o w) (hok:okL D m args) :
 CallS P f (concL m args).toArray w fun V w'=>∃D' m',V=conc m' r.1/\okV D' m' r.1/\Ext cfg C D m o w D' m' r.2 w'/\(ids=[]->Mute D w D' m' w'):=by
 simp only [callN,ob_some,Option.some.injEq] at h
 obtain ⟨r1,he,rfl⟩:=h
 have hlo:=hi.lo
 have hleD:∀p∈lendA C o ids,D p.1/\own? C o p.1=some p.2:=fun p hp=>⟨hids _ (lendA_ids hp).1,(lendA_ids hp).2⟩
 have hleg:∀(le:List (Nat×AObj)) id x,leAt le id=some x->∃p∈le,p=(id,x):=by
  intro le
  induction le with
  | nil=>intro id x h;cases h
  | cons p le ih=>
    intro id x h
    rw [leAt] at h
    by_cases e:p.1=id
    · rw [beqT e,cond_true,Option.some.injEq] at h
      exact ⟨p,List.mem_cons_self,by rw [←e,←h]⟩
    · rw [beqF e,cond_false] at h
      obtain ⟨q,hq,e'⟩:=ih id x h
      exact ⟨q,List.mem_cons_of_mem _ hq,e'⟩
 have hC1:∀(o1:Own) id,id<C.lo+o.n->get ⟨(C.lo,o)::C.B,C.lo+o.n⟩ o1 id=(match leAt o1.le id with
  | some x=>x
  | none=>get C o id):=fun o1 id hid=>by
  rw [get,getB,bleF (by simp only;omega)]
  rfl
 have hg:∀id,id<C.lo+o.n->get ⟨(C.lo,o)::C.B,C.lo+o.n⟩ ⟨0,[],lendA C o ids⟩ id=get C o id:=fun id hid=>by
  rw [hC1 _ id hid]
  simp only
  cases hx:leAt (lendA C o ids) id with
  | none=>rfl
  | some x=>
    obtain ⟨p,hp,e⟩:=hleg _ _ _ hx
    have:=(hleD p hp).2
    rw [e] at this
    exact (own_get this).symm
 have hown:∀id,D id->(own? ⟨(C.lo,o)::C.B,C.lo+o.n⟩ ⟨0,[],lendA C o ids⟩ id).isSome=true->id∈ids/\(own? C o id).isSome=true:=fun id hd hs=>by
  unfold own? at hs
  rw [bleF (by have:=hi.lt id hd;simp only;omega)] at hs
  simp only [cond_false] at hs
  obtain ⟨p,hp,e⟩:=List.mem_map.1 (leAt_isSome.1 hs)
  rw [←e]
  exact ⟨(lendA_ids hp).1,by rw [(hleD p hp).2];rfl⟩
 have hi1:Inv cfg D m ⟨(C.lo,o)::C.B,C.lo+o.n⟩ ⟨0,[],lendA C o ids⟩ w:=by
  refine ⟨fun id hd=>?_,fun i j hdi hdj hij hl hr=>?_,fun id hd=>hi.lt id hd,hi.glob,fun id hid=>?_,fun id hid=>?_,by simp only;omega,rfl⟩
  · rw [hg id (hi.lt id hd)];exact hi.obj id hd
  · rw [hg i (hi.lt i hdi)] at hl
    rw [hg j (hi.lt j hdj)] at hr
    exact hi.inj i j hdi hdj hij hl hr
  · rw [hg id (hi.lt id (hi.root id hid).1)];exact hi.root id hid
  · obtain ⟨p,hp,e⟩:=List.mem_map.1 hid
    obtain ⟨hd,ho⟩:=hleD p hp
    rw [←e]
    refine ⟨?_,hi.lt p.1 hd⟩
    unfold own? at ho
    by_cases hb':C.lo≤p.1
    · omega
    · rw [bleF hb',cond_false] at ho
      exact (hi.le p.1 (leAt_isSome.1 (by rw [ho];rfl))).1
 refine .inl (enter_ok hT hcode hb he hi1 hok fun D' m' w' hv hx=>?_)
 obtain ⟨hl1,hl2⟩:=enterA_ll hll he rfl
 simp only at hl2
 have take:∀o2:Own,o2.n=r1.2.n+o.n->o2.le.map (·.1)=o.le.map (·.1)->o2.os.length=o2.n->(∀id,D' id->get C o2 id=get ⟨(C.lo,o)::C.B,C.lo+o.n⟩ r1.2 id)->
  Ext cfg C D m o w D' m' o2 w':=by
  intro o2 hn hle hlen hget
  have hi2:Inv cfg D' m' C o2 w':=by
   refine ⟨fun id hd=>by rw [hget id hd];exact hx.inv.obj id hd,fun i j hdi hdj hij hl hr=>?_,fun id hd=>?_,hx.inv.glob,fun id hid=>?_,fun id hid=>?_,hi.lo,hlen⟩
   · rw [hget i hdi] at hl
     rw [hget j hdj] at hr
     exact hx.inv.inj i j hdi hdj hij hl hr
   · have:=hx.inv.lt id hd
     simp only at this
     omega
   · rw [hget id (hx.inv.root id hid).1];exact hx.inv.root id hid
   · rw [hle] at hid;exact hi.le id hid
  refine ⟨hi2,hx.sub,hx.same,fun i hd=>?_,by omega,hx.os,hx.tape,hx.output,hx.size,fun k hk hn=>hx.frame k hk fun i hd hs=>hn i hd (hown i hd hs).2,hle,fun i hd hnd=>?_⟩
  · have:=hx.new i hd
    simpa using this
  · rcases hx.fresh i hd hnd with hf|⟨j,hj,hoj,e⟩
    · exact .inl hf
    · exact .inr ⟨j,hj,(hown j hj hoj).2,e⟩
 have mute:ids=[]->Mute D w D' m' w':=fun e=>by
  have hno:∀i,D i->(own? ⟨(C.lo,o)::C.B,C.lo+o.n⟩ ⟨0,[],lendA C o ids⟩ i).isSome=true->False:=fun i hd hs=>by
   have:=(hown i hd hs).1
   rw [e] at this;cases this
  exact ⟨fun k hk=>hx.frame k hk fun i hd hs=>(hno i hd hs).elim,fun i hd hnd=>(hx.fresh i hd hnd).resolve_right fun ⟨j,hj,hoj,_⟩=>hno j hj hoj⟩
 have hgrown:∀id,D' id->leAt r1.2.le id=none->get C (grown r1.2 o) id=get ⟨(C.lo,o)::C.B,C.lo+o.n⟩ r1.2 id:=fun id hd hle=>by
  by_cases hid:id<C.lo+o.n
  · rw [grown_old hl1 hid,hC1 _ id hid,hle]
  · have hlt:=hx.inv.lt id hd
    simp only at hlt
    rw [grown_new hl1 (by omega) (by omega),get,getB,ble_iff.2 (by simp only;omega),cond_true]
 unfold afterA
 cases hle:lendA C o ids with
 | nil=>
   rw [hle] at hl2
   have hle2:r1.2.le=[]:=by simpa using hl2
   simp only
   cases hbe:belowA (C.lo+o.n) 20 r1.1 with
   | true=>
     simp only [cond_true]
     obtain ⟨h1,h2,h3,h4⟩:=quiet_back hi hx (fun i hd=>hd) (fun i hd hs=>by
      unfold own? at hs
      rw [bleF (by have:=hi.lt i hd;simp only;omega),hle] at hs
      simp [leAt] at hs) hv fun i hm hd'=>by
       rcases hx.new i.1 hd' with hd|hge
       · exact hd
       · have:=belowA_ok 20 hbe i hm
         simp only at hge
         omega
     exact ⟨D,m,h1,h2,h3,fun _=>h4⟩
   | false=>
     simp only [cond_false]
     refine ⟨D',m',rfl,hv,take _ rfl rfl (by simp [hl1,hi.len]) fun id hd=>?_,mute⟩
     exact hgrown id hd (by rw [hle2];rfl)
 | cons p ps=>
   simp only
   obtain ⟨b1,b2,b3⟩:=backA_n (C:=C) (l:=r1.2.le) (o:=grown r1.2 o)
   have hgl:(grown r1.2 o).os.length=(grown r1.2 o).n:=by simp [grown,hl1,hi.len]
   refine ⟨D',m',rfl,hv,take _ b1 b2 (b3 hgl) fun id hd=>?_,mute⟩
   have hlt:=hx.inv.lt id hd
   simp only at hlt
   have hnd:(r1.2.le.map (·.1)).Nodup:=by rw [hl2];exact lendA_nodup
   have hpp:∀q∈r1.2.le,q.1<C.lo+(grown r1.2 o).n/\(own? C (grown r1.2 o) q.1).isSome=true:=fun q hq=>by
    have:q.1∈(lendA C o ids).map (·.1):=by rw [←hl2];exact List.mem_map.2 ⟨q,hq,rfl⟩
    obtain ⟨q',hq',e⟩:=List.mem_map.1 this
    obtain ⟨hd',ho'⟩:=hleD q' hq'
    have hlt':=hi.lt q'.1 hd'
    rw [←e]
    refine ⟨by simp only [grown];omega,?_⟩
    rw [show (own? C (grown r1.2 o) q'.1).isSome=(own? C o q'.1).isSome from own_isSome (o:=o) (o':=grown r1.2 o) rfl q'.1,ho'];rfl
   have:=backA_get (i:=id) hgl hnd hpp (by simp only [grown];omega)
   rw [show (⟨r1.2.n+o.n,r1.2.os++o.os,o.le⟩:Own)=grown r1.2 o from rfl,this]
   cases hx':leAt r1.2.le id with
   | none=>exact hgrown id hd hx'
   | some y=>
     simp only
     have hid:id<C.lo+o.n:=by
      have:id∈r1.2.le.map (·.1):=leAt_isSome.1 (by rw [hx'];rfl)
      rw [hl2] at this
      obtain ⟨q',hq',e⟩:=List.mem_map.1 this
      rw [←e]
      exact hi.lt q'.1 (hleD q' hq').1
     rw [hC1 _ id hid,hx']
theorem callA_ok {inl:Bool} {mu:Prop} (hmu:inl=true->¬mu) (horc:CallOK P cfg True fun C f args o=>cfg.orc f C args o):CallOK P cfg mu (callA T cfg inl code):=by
 intro C f args o r h D m w hi hok
 unfold callA at h
 cases ho:cfg.orc f C args o with
 | some r'=>
   rw [ho] at h
   cases h
   exact (horc C f args o r ho D m w hi hok).mono fun V w' ⟨D',m',h1,h2,h3,h4⟩=>⟨D',m',h1,h2,h3,fun _=>h4 trivial⟩
 | none=>
   rw [ho] at h
   simp only [callF,ob_some] at h
   obtain ⟨⟨fn,c⟩,hb,h⟩:=h
   cases hc:(cfg.canon f&&belowL cfg.root.n args) with
   | true=>
     simp only [hc,cond_true,ob_some,Option.some.injEq] at h
     obtain ⟨v,hv,rfl⟩:=h
     rw [Bool.and_eq_true] at hc
     exact (callP_ok hT hK hcode hll hb hc.2 hv hi hok).mono fun V w' ⟨h1,h2,h3,h4⟩=>⟨D,m,h1,h2,h3,fun _ _=>h4⟩
   | false=>
     simp only [hc,cond_false,callL] at h
     cases hy:(inl&&anyYL args) with
     | true=>
       rw [hy,cond_true] at h
       rw [Bool.and_eq_true] at hy
       exact .inl (enter_ok hT hcode hb h hi hok fun D' m' w' hv hx=>⟨D',m',rfl,hv,hx,fun hm=>(hmu hy.1 hm).elim⟩)
     | false=>
       rw [hy,cond_false] at h
       exact (callN_ok hT hK hcode hll hb (fun i hm=>namesAt_ok hok hm) h hi hok).mono fun V w' ⟨D',m',h1,h2,h3,h4⟩=>⟨D',m',h1,h2,h3,fun _=>h4⟩
end
theorem setPs_ok {D:Nat->Prop} {m:Nat->Loc} {tn:Nat}:∀{ps:List Tmp} {vs:List AV} {tmps:Array Value} {ts ts':Ts},setPs tn ts ps vs=some ts'->tmps.size=tn->(∀t,tmps.getD t undef=conc m (ts.get t))->(∀t,okV D m (ts.get t))->okL D m vs->
 (((ps.zip (concL m vs)).foldl (fun tmps (p:Tmp×Value)=>tmps.setIfInBounds p.1 p.2) tmps).size=tn/\(∀t,((ps.zip (concL m vs)).foldl (fun tmps (p:Tmp×Value)=>tmps.setIfInBounds p.1 p.2) tmps).getD t undef=conc m (ts'.get t))/\∀t,okV D m (ts'.get t))/\ps.length=vs.length
 | [],[],tmps,ts,ts',h,h1,h2,h3,_=>by cases h;exact ⟨⟨by simpa [concL] using h1,fun t=>by simpa [concL] using h2 t,h3⟩,rfl⟩
 | p::ps,v::vs,tmps,ts,ts',h,h1,h2,h3,h4=>by
   simp only [setPs,ok_some,Bool.and_eq_true,natLt_iff] at h
   obtain ⟨⟨hp1,hp2⟩,h⟩:=h
   obtain ⟨hv,hvs⟩:=okL_cons.1 h4
   have hd:p<2^20-1:=Nat.lt_of_lt_of_le hp2 (by decide)
   obtain ⟨a,b⟩:=setPs_ok (tmps:=tmps.setIfInBounds p (conc m v)) h (by simp [h1]) (fun t=>by
    rw [Ts.get_set 20 _ _ _ _ hd]
    have:=h2 t
    by_cases e:t=p
    · subst e
      rw [if_pos rfl]
      simp [Array.getD,h1,hp1]
    · rw [if_neg e,←this]
      simp only [Array.getD,Array.size_setIfInBounds]
      split
      · rw [Array.getInternal_eq_getElem,Array.getInternal_eq_getElem,Array.getElem_setIfInBounds_ne (h:=fun e'=>e e'.symm)]
      · rfl) (fun t=>by
    rw [Ts.get_set 20 _ _ _ _ hd]
    split
    · exact hv
    · exact h3 t) hvs
   refine ⟨?_,by simp [b]⟩
   simpa [concL] using a
 | [],_::_,_,_,_,h,_,_,_,_=>by cases h
 | _::_,[],_,_,_,h,_,_,_,_=>by cases h
theorem foldl_zip {α β γ:Type} (f:γ->α->β->γ) (xs:Array α) (ys:List β) (z:γ):(xs.zip ys.toArray).foldl (fun c (x,y)=>f c x y) z=(xs.toList.zip ys).foldl (fun c p=>f c p.1 p.2) z:=by
 rw [←Array.foldl_toList]
 simp
section
variable {P:Program} {cfg:Cfg} {code:Ctx->Code->St->Option (AX×St)} (hcode:CodeOK P cfg code) (hll:CodeLL code)
include hcode hll
theorem roundA_ok:RndOK P cfg False (roundA code):=by
 intro C id args o r h
 refine ⟨fun hf=>hf,fun D m w hi hd hok=>?_⟩
 simp only [roundA,ob_some] at h
 obtain ⟨q,hq,ts,hts,x,hx,h⟩:=h
 simp only [beginRoundA,ok_some,ob_some] at h
 obtain ⟨hn,q1,hq1,hrd,x2,hx2,h⟩:=h
 simp only [endRoundA,ob_some,Option.some.injEq] at h
 obtain ⟨q2,hq2,rfl⟩:=h
 have hown:=loopAt_some hq
 obtain ⟨fn,tmps,hb,hrel⟩:∃fn tmps,w.heap[(m id).blk]? = some (.loop (loopOf m q fn tmps))/\LoopRel D m q fn tmps:=by
  have:=hi.obj id hd
  rw [own_get hown] at this
  exact this
 obtain ⟨⟨s1,s2,s3⟩,s4⟩:=setPs_ok hts hrel.size hrel.at' hrel.okt hok
 have hsz:(concL m args).toArray.size=(loopOf m q fn tmps).params.size:=by
  have:(concL m args).length=args.length:=concL_len
  simp only [List.size_toArray,this,loopOf,←s4,Array.length_toList]
 refine ⟨_,_,_,_,run_yield hb hsz,?_⟩
 refine roundIn_of_wpIn (F:=Fence.wide) trivial ?_
 have hT0:TR D m ⟨ts,q.tn,o,[],some id⟩ { tmps:=((loopOf m q fn tmps).params.zip (concL m args).toArray).foldl (fun tmps (t,a)=>tmps.setIfInBounds t a) (loopOf m q fn tmps).tmps,defers:=[] }:=by
  have e:=foldl_zip (fun (c:Array Value) (t:Tmp) (a:Value)=>c.setIfInBounds t a) (loopOf m q fn tmps).params (concL m args) (loopOf m q fn tmps).tmps
  refine ⟨?_,fun t=>?_,s3,rfl,fun d hd=>(by cases hd),fun i hi=>(by cases hi;exact hd)⟩
  · rw [e];exact s1
  · rw [e];exact s2 t
 refine hcode C q.assign ⟨ts,q.tn,o,[],some id⟩ x hx D m _ w hi hT0 _ fun D1 m1 a1 w1 ht1 he1=>?_
 have hx1:x.1=.normal:=by cases hxe:x.1<;>rw [hxe] at hn<;>first|rfl|cases hn
 rw [hx1]
 have hd1:=he1.sub id hd
 have hm1:=he1.same id hd
 have hown1:=loopAt_some hq1
 obtain ⟨fn1,tmps1,hb1,hrel1⟩:∃fn tmps,w1.heap[(m1 id).blk]? = some (.loop (loopOf m1 q1 fn tmps))/\LoopRel D1 m1 q1 fn tmps:=by
  have:=he1.inv.obj id hd1
  rw [own_get hown1] at this
  exact this
 have hlt1:=(Array.getElem?_eq_some_iff.1 hb1).1
 have hst:(loopOf m1 q1 fn1 tmps1).state=.ready:=by
  show q1.state=.ready
  cases hs:q1.state<;>rw [hs] at hrd<;>first|rfl|cases hrd
 have hbr:=run_beginRound (P:=P) hb1 hst
 have he2:Ext cfg C D1 m1 x.2.o w1 D1 m1 (putO C x.2.o id (.loop ⟨.busy,q1.pend,q1.ts,q1.tn,q1.params,q1.assign,q1.body,q1.defs⟩)) (w1.putObj (m1 id).blk (.loop { loopOf m1 q1 fn1 tmps1 with state:=.busy })):=
  Ext.put he1.inv hd1 hown1 rfl (by simp) (fun k hk=>World.putObj_heap_other hk) ⟨fn1,tmps1,World.putObj_heap_same hlt1,⟨hrel1.size,hrel1.at',hrel1.okt,hrel1.defs⟩⟩ rfl rfl rfl
 show ∃w₂,(Instr.beginRound (m id).blk).run P w1=.ok () w₂/\_
 rw [←hm1]
 refine ⟨_,hbr,?_⟩
 have hro:roB m1 x.2.ro=some (m1 id).blk:=by rw [(hll _ _ _ _ hx).2];rfl
 have hbody:=hcode C q.body ⟨x.2.ts,x.2.tn,putO C x.2.o id (.loop ⟨.busy,q1.pend,q1.ts,q1.tn,q1.params,q1.assign,q1.body,q1.defs⟩),x.2.ds,x.2.ro⟩ x2 hx2 D1 m1 a1 _ he2.inv ⟨ht1.size,ht1.at',ht1.okt,ht1.defers,ht1.dsD,ht1.roD⟩
  (roundPost P (m1 id).blk fun e w'=>∃v,e=.returned v/\∃D' m',v=conc m' (.bool (isNorm x2.1))/\okV D' m' (.bool (isNorm x2.1))/\Ext cfg C D m o w D' m' (putO C x2.2.o id (.loop ⟨endState x2.1,jumpOf x2.1,q2.ts,q2.tn,q2.params,q2.assign,q2.body,q2.defs⟩)) w')
 rw [hro] at hbody
 refine hbody fun D3 m3 a3 w3 ht3 he3=>?_
 have hd3:=he3.sub id hd1
 have hm3:=he3.same id hd1
 have hown3:=loopAt_some hq2
 obtain ⟨fn3,tmps3,hb3,hrel3⟩:∃fn tmps,w3.heap[(m3 id).blk]? = some (.loop (loopOf m3 q2 fn tmps))/\LoopRel D3 m3 q2 fn tmps:=by
  have:=he3.inv.obj id hd3
  rw [own_get hown3] at this
  exact this
 have hlt3:=(Array.getElem?_eq_some_iff.1 hb3).1
 have he4:Ext cfg C D3 m3 x2.2.o w3 D3 m3 (putO C x2.2.o id (.loop ⟨endState x2.1,jumpOf x2.1,q2.ts,q2.tn,q2.params,q2.assign,q2.body,q2.defs⟩)) (w3.putObj (m3 id).blk (.loop { loopOf m3 q2 fn3 tmps3 with state:=endState x2.1,pending:=jumpOf x2.1 })):=
  Ext.put he3.inv hd3 hown3 rfl (by simp) (fun k hk=>World.putObj_heap_other hk) ⟨fn3,tmps3,World.putObj_heap_same hlt3,⟨hrel3.size,hrel3.at',hrel3.okt,hrel3.defs⟩⟩ rfl rfl rfl
 have hall:=he1.trans (he2.trans (he3.trans he4))
 rw [←hm3]
 have hend:∀j:Option Code,j=jumpOf x2.1->∃v w',(Instr.endRound (m3 id).blk j).run P w3=.ok v w'/\∃v',Ending.returned v=.returned v'/\∃D' m',v'=conc m' (.bool (isNorm x2.1))/\okV D' m' (.bool (isNorm x2.1))/\Ext cfg C D m o w D' m' (putO C x2.2.o id (.loop ⟨endState x2.1,jumpOf x2.1,q2.ts,q2.tn,q2.params,q2.assign,q2.body,q2.defs⟩)) w':=by
  rintro j rfl
  have hbool:(jumpOf x2.1).isNone=isNorm x2.1:=by cases x2.1<;>rfl
  have hstate:(if (jumpOf x2.1).isNone then LoopState.ready else LoopState.done)=endState x2.1:=by cases x2.1<;>rfl
  have hr:=run_endRound (P:=P) (jumpOf x2.1) hb3
  rw [hbool] at hr
  rw [hbool] at hstate
  rw [hstate] at hr
  exact ⟨_,_,hr,_,rfl,D3,m3,by simp [conc],okV_none (by simp [idsA]),hall⟩
 cases hxe:x2.1 with
 | normal=>rw [hxe] at hend;exact hend none rfl
 | ret=>rw [hxe] at hend;exact hend (some .ret) rfl
 | exit j=>rw [hxe] at hend;exact hend (some (.exit j)) rfl
end
section
variable {P:Program} {b:Frame} {a:Act} {k:List Item} {cs:List Frame} {w:World} {Q:Exit->Act->World->Prop}
theorem stepR_scope {c:Code}:step P (lone (b.atR a (.code (.scope c)::k)) cs w)=.next (lone (b.atR a (.code c::.inScope c::k)) cs w):=
 step_lone_go (by simp [stepG,stepG.exec,Frame.atR])
theorem stepR_inScope {c:Code}:step P (lone (b.atR a (.inScope c::k)) cs w)=.next (lone (b.atR a k) cs w):=
 step_lone_go (by simp [stepG,stepG.exec,Frame.atR])
theorem wpIn_scope_straight {x:Option Nat} {c:Code} (h:c.wpIn (FR x) 0 P (Exit.noGoto Q) a w):(Code.scope c).wpIn (FR x) 0 P Q a w:=by
 intro b k cs hro hb hr
 obtain ⟨e,a₁,w₁,hq,harr⟩:=h b (.inScope c::k) cs hro hb hr
 have h0:StepsIn (Machine.fenced P (FR x)) P (lone (b.atR a (.code (.scope c)::k)) cs w) (lone (b.atR a (.code c::.inScope c::k)) cs w):=.one (fenced_calm (fr:=b.atR a (.code (.scope c)::k)) hb hr rfl) stepR_scope
 cases e with
 | normal=>exact ⟨.normal,a₁,w₁,hq,h0.trans (StepsIn.trans harr (.one (fenced_calm (fr:=b.atR a₁ (.inScope c::k)) hb hr rfl) stepR_inScope))⟩
 | exit id=>
   exact ⟨.exit id,a₁,w₁,hq,fun k' hk=>h0.trans (harr.1 k' (by simpa [exitTo] using hk)),fun hr' hk=>let ⟨k₁,h1,h2⟩:=harr.2 hr' (by simpa [exitTo] using hk);⟨k₁,h1,h0.trans h2⟩⟩
 | goto l=>exact hq.elim
 | ret=>exact ⟨_,a₁,w₁,hq,.of_steps h0 harr⟩
 | panic ch=>exact ⟨_,a₁,w₁,hq,.of_steps h0 harr⟩
 | outgrown=>exact ⟨_,a₁,w₁,hq,.of_steps h0 harr⟩
theorem run_enterLoop_inner {l:Nat} {r:Loop} (fn:FuncId) (tmps:Array Value) (ps:Array Tmp) (assign body:Code) (h:w.heap[l]? = some (.loop r)) :
 (Instr.enterLoop fn tmps ps assign body (some l)).run P w =
   .ok (w.heap.size,[]) (w.alloc (.loop { state:=.ready,pending:=none,fn,tmps,params:=ps,assign,body,defers:=r.defers })):=by
 unfold Instr.enterLoop
 simp only [Sem.run_bind,run_getLoop h,run_newObj_alloc,Result.andThen,Sem.run_pure,World.size_alloc]
end
section
variable {P:Program} {T:Tab} (hT:TabOK P T) {cfg:Cfg} {code:Ctx->Code->St->Option (AX×St)} (hcode:CodeOK P cfg code) (hll:CodeLL code)
include hT hcode hll
theorem enterDefs_ok {C:Ctx} {D:Nat->Prop} {m:Nat->Loc} {st:St} {a:Act} {w:World} (hi:Inv cfg D m C st.o w) (ht:TR D m st a) {e:Nat×Own×List Nat} (h:enterDefs C st=some e) (fn:FuncId) (ps:Array Tmp) (assign body:Code) :
 ∃D1 m1 w1 mark,(Instr.enterLoop fn a.tmps ps assign body (roB m st.ro)).run P w=.ok ((m1 (e.2.1.next C)).blk,mark) w1/\D1 (e.2.1.next C)/\
  Ext cfg C D m st.o w D1 m1 (e.2.1.push (.loop ⟨.ready,none,st.ts,st.tn,ps,assign,body,e.1⟩)) w1/\mark++a.defers=marksOf m1 e.2.2/\∀d∈e.2.2,D1 d:=by
 have lay:∀{D0:Nat->Prop} {m0:Nat->Loc} {o0:Own} {w0:World} {d:Nat},Ext cfg C D m st.o w D0 m0 o0 w0->D0 d->
  Ext cfg C D m st.o w (addD D0 (C.lo+o0.n)) (upd m0 (C.lo+o0.n) ⟨w0.heap.size,0,0⟩) (o0.push (.loop ⟨.ready,none,st.ts,st.tn,ps,assign,body,d⟩))
   (w0.alloc (.loop { state:=.ready,pending:=none,fn,tmps:=a.tmps,params:=ps,assign,body,defers:=(m0 d).blk })):=by
  intro D0 m0 o0 w0 d hx hd
  refine hx.trans (Ext.alloc hx.inv (by simp) (fun k hk=>Below.heap_alloc _ _ k hk) (Nat.le_refl _) ?_ rfl rfl rfl)
  have ht0:=ht.mono hx.sub hx.same
  exact ⟨fn,a.tmps,World.alloc_heap_new w0 _,⟨ht0.size,ht0.at',ht0.okt,hd⟩⟩
 unfold enterDefs at h
 cases hro:st.ro with
 | none=>
   rw [hro] at h
   cases h
   have h1:Ext cfg C D m st.o w (addD D (C.lo+st.o.n)) (upd m (C.lo+st.o.n) ⟨w.heap.size,0,0⟩) (st.o.push .defs) (w.alloc (.deferred (some []))):=
    Ext.alloc hi (by simp) (fun k hk=>Below.heap_alloc _ _ k hk) (Nat.le_refl _) (World.alloc_heap_new w _) rfl rfl rfl
   have hd1:addD D (C.lo+st.o.n) (st.o.next C):=.inr rfl
   have h2:=lay h1 hd1
   have hblk:(upd m (C.lo+st.o.n) ⟨w.heap.size,0,0⟩ (st.o.next C)).blk=w.heap.size:=by
    show (upd m (C.lo+st.o.n) ⟨w.heap.size,0,0⟩ (C.lo+st.o.n)).blk=_
    rw [upd_eq]
   rw [hblk] at h2
   have hrun:=run_enterLoop_outer (P:=P) (w:=w) fn a.tmps ps assign body
   refine ⟨_,_,_,[{ target:=.collected w.heap.size,args:=#[] }],?_,.inr rfl,h2,?_,?_⟩
   · show (Instr.enterLoop fn a.tmps ps assign body none).run P w=_
     rw [hrun]
     congr 2
     show w.heap.size+1=(upd _ (C.lo+(st.o.push .defs).n) _ (C.lo+(st.o.push .defs).n)).blk
     rw [upd_eq];simp
   · rw [ht.defers]
     have hs:marksOf (upd (upd m (C.lo+st.o.n) ⟨w.heap.size,0,0⟩) (C.lo+(st.o.push .defs).n) ⟨(w.alloc (.deferred (some []))).heap.size,0,0⟩) st.ds=marksOf m st.ds:=marksOf_same ht.dsD fun i hi'=>by
      have:=hi.lt i hi'
      rw [upd_ne (by simp only [Own.push];omega),upd_ne (by omega)]
     show _::marksOf m st.ds=_::marksOf _ st.ds
     rw [hs]
     congr 2
     show Target.collected w.heap.size=.collected (upd (upd m (C.lo+st.o.n) _) (C.lo+(st.o.push .defs).n) _ (C.lo+st.o.n)).blk
     rw [upd_ne (by simp only [Own.push];omega),upd_eq]
   · intro d hd
     rcases List.mem_cons.1 hd with rfl|hd
     · exact .inl (.inr rfl)
     · exact .inl (.inl (ht.dsD d hd))
 | some i=>
   rw [hro] at h
   simp only [ob_some,Option.some.injEq] at h
   obtain ⟨q,hq,rfl⟩:=h
   have hdi:=ht.roD i hro
   obtain ⟨fn0,tmps0,hb,hrel⟩:∃fn tmps,w.heap[(m i).blk]? = some (.loop (loopOf m q fn tmps))/\LoopRel D m q fn tmps:=by
    have:=hi.obj i hdi
    rw [own_get (loopAt_some hq)] at this
    exact this
   have h2:=lay (Ext.refl hi) hrel.defs
   have hrun:=run_enterLoop_inner (P:=P) fn a.tmps ps assign body hb
   refine ⟨_,_,_,[],?_,.inr rfl,h2,?_,fun d hd=>.inl (ht.dsD d hd)⟩
   · show (Instr.enterLoop fn a.tmps ps assign body (some (m i).blk)).run P w=_
     rw [hrun]
     congr 2
     show w.heap.size=(upd _ (C.lo+st.o.n) _ (C.lo+st.o.n)).blk
     rw [upd_eq]
   · rw [ht.defers]
     show marksOf m st.ds=marksOf _ st.ds
     exact (marksOf_same ht.dsD fun i hi'=>by
      have:=hi.lt i hi'
      exact upd_ne (by omega)).symm
theorem range_ok {C:Ctx} {D:Nat->Prop} {m:Nat->Loc} {st:St} {a:Act} {w:World} (hi:Inv cfg D m C st.o w) (ht:TR D m st a) {g:Operand} {ps:Array Tmp} {assign body:Code} {r:AX×St} (h:cRange g ps assign body T cfg code C st=some r)
 {Q:Exit->Act->World->Prop} (hq:∀D' m' a' w',TR D' m' r.2 a'->Ext cfg C D m st.o w D' m' r.2.o w'->Q (exitOf r.1) a' w'):(Code.rangeFunc g ps assign body).wpIn (FR (roB m st.ro)) 0 P Q a w:=by
 simp only [cRange,ob_some] at h
 obtain ⟨gv,hgv,e,he,x,hx,h⟩:=h
 simp only [endLoopA,ob_some,ok_some,Option.some.injEq] at h
 obtain ⟨q,hq',hbusy,ax,hax,rfl⟩:=h
 obtain ⟨hev,hgok⟩:=evalA_conc hi ht hgv
 refine wpIn_rangeFunc fun fn _=>?_
 obtain ⟨D1,m1,w1,mark,hrun,hl1,hx1,hmk,hds⟩:=enterDefs_ok (P:=P) hT hcode hll hi ht he fn ps assign body
 cases gv<;>simp only [loopCall,reduceCtorEq] at hx
 rename_i f first captured
 rw [ob_some] at hx
 obtain ⟨fc,hfc,hx⟩:=hx
 have hok1:okL D1 m1 (first++[.yield (e.2.1.next C)]++captured):=by
  have h1:okL D m first/\okL D m captured:=⟨fun i hm=>hgok i (by simp [idsA,hm]),fun i hm=>hgok i (by simp [idsA,hm])⟩
  refine okL_append.2 ⟨okL_append.2 ⟨h1.1.mono hx1.sub hx1.same,okL_cons.2 ⟨fun i hm=>?_,okL_nil⟩⟩,h1.2.mono hx1.sub hx1.same⟩
  simp only [idsA,List.mem_singleton] at hm
  subst hm
  exact ⟨hl1,Nat.zero_le _⟩
 obtain ⟨fn',cc⟩:=fc
 obtain ⟨hent,hcalls⟩:=enter_ok (P:=P) (cfg:=cfg) (R:=fun V w'=>∃D' m',V=conc m' x.1/\okV D' m' x.1/\Ext cfg C D1 m1 (e.2.1.push (.loop ⟨.ready,none,st.ts,st.tn,ps,assign,body,e.1⟩)) w1 D' m' x.2 w') hT hcode hfc hx hx1.inv hok1
  fun D' m' w' hv hxx=>⟨D',m',rfl,hv,hxx⟩
 have hargs:(concL m1 first).toArray++#[Value.func (.yield (m1 (e.2.1.next C)).blk) #[] #[]]++(concL m1 captured).toArray=(concL m1 (first++[.yield (e.2.1.next C)]++captured)).toArray:=by
  simp [concL_app,concL,conc]
 refine ⟨(m1 (e.2.1.next C)).blk,mark,w1,{ target:=.fn (.func f) (concL m1 captured).toArray,args:=(concL m1 first).toArray++#[.func (.yield (m1 (e.2.1.next C)).blk) #[] #[]] },w1,f,(concL m1 (first++[.yield (e.2.1.next C)]++captured)).toArray,w1,hrun,?_,fun _ _=>trivial,?_,fun hk=>(by cases hk),?_⟩
 · have e1:concL m first=concL m1 first:=(concL_same (fun i hm=>hgok i (by simp [idsA,hm])) hx1.same).symm
   have e2:concL m captured=concL m1 captured:=(concL_same (fun i hm=>hgok i (by simp [idsA,hm])) hx1.same).symm
   simp only [resolve,hev,conc,Deferred.ofValue,e1,e2]
   simp [go_sem]
 · simp only [invoke]
   rw [hargs];exact hent
 · refine CallsIn.mono (callsFR hcalls) ?_
   rintro e' w3 ⟨v,rfl,D3,m3,rfl,hv3,hx3⟩
   have hl3:=hx3.sub _ hl1
   have hm3:=hx3.same _ hl1
   obtain ⟨fn3,tmps3,hb3,hrel3⟩:∃fn tmps,w3.heap[(m3 (e.2.1.next C)).blk]? = some (.loop (loopOf m3 q fn tmps))/\LoopRel D3 m3 q fn tmps:=by
    have:=hx3.inv.obj _ hl3
    rw [own_get (loopAt_some hq')] at this
    exact this
   have hlt3:=(Array.getElem?_eq_some_iff.1 hb3).1
   have hnb:(loopOf m3 q fn3 tmps3).state≠.busy:=by
    show q.state≠.busy
    intro hs
    rw [hs] at hbusy;cases hbusy
   have hend:=run_endLoop (P:=P) hb3 hnb
   have he4:Ext cfg C D3 m3 x.2 w3 D3 m3 (putO C x.2 (e.2.1.next C) (.loop ⟨.exhausted,q.pend,q.ts,q.tn,q.params,q.assign,q.body,q.defs⟩)) (w3.putObj (m3 (e.2.1.next C)).blk (.loop { loopOf m3 q fn3 tmps3 with state:=.exhausted })):=
    Ext.put hx3.inv hl3 (loopAt_some hq') rfl (by simp) (fun k hk=>World.putObj_heap_other hk) ⟨fn3,tmps3,World.putObj_heap_same hlt3,⟨hrel3.size,hrel3.at',hrel3.okt,hrel3.defs⟩⟩ rfl rfl rfl
   generalize w3.putObj (m3 (e.2.1.next C)).blk (.loop { loopOf m3 q fn3 tmps3 with state:=.exhausted })=w4 at hend he4
   have hall:=hx1.trans (hx3.trans he4)
   have ht4:TR D3 m3 ⟨st.ts,st.tn,putO C x.2 (e.2.1.next C) (.loop ⟨.exhausted,q.pend,q.ts,q.tn,q.params,q.assign,q.body,q.defs⟩),e.2.2,st.ro⟩ { a with defers:=mark++a.defers }:=by
    have h0:=(ht.mono hx1.sub hx1.same).mono hx3.sub hx3.same
    refine ⟨h0.size,h0.at',h0.okt,?_,fun d hd=>hx3.sub d (hds d hd),h0.roD⟩
    show mark++a.defers=marksOf m3 e.2.2
    rw [hmk,marksOf_same hds hx3.same]
   have hfin:=hq D3 m3 _ _ ht4 hall
   show ∃jump w₄,(Instr.endLoop (m1 (e.2.1.next C)).blk).run P w3=.ok jump w₄/\_
   rw [←hm3]
   refine ⟨_,_,hend,?_⟩
   have hpend:(loopOf m3 q fn3 tmps3).pending=q.pend:=rfl
   rw [hpend]
   unfold endJump at hax
   split at hax
   · rename_i hp;cases hax;rw [hp];exact hfin
   · rename_i hp;cases hax;rw [hp];exact wpIn_ret hfin
   · rename_i id hp;cases hax;rw [hp];exact wpIn_exit hfin
   · cases hax
end
section
variable {P:Program} {T:Tab} (hT:TabOK P T) (hm:P.follows .mixedOrders=true) {cfg:Cfg} (hK:CfgOK cfg) (horc:CallOK P cfg True fun C f args o=>cfg.orc f C args o) (hof:CallFoot cfg fun C f args o=>cfg.orc f C args o)
include hT hm hK horc hof
theorem code_ok:∀n,CodeOK P cfg (codeA T cfg n)/\∀C b st r,codeA T cfg n C (.loop b) st=some r->∀D m a w,Inv cfg D m C st.o w->TR D m st a->∀Q:Exit->Act->World->Prop,
 (∀D' m' a' w',TR D' m' r.2 a'->Ext cfg C D m st.o w D' m' r.2.o w'->Q (exitOf r.1) a' w')->Code.roundsIn (FR (roB m st.ro)) 0 P b Q n a w
 | 0=>⟨fun C c st r h=>(by cases h),fun C b st r h=>(by cases h)⟩
 | n+1=>by
   obtain ⟨ih,ihl⟩:=code_ok n
   have ill:=code_ll (T:=T) hof n
   have frame:∀{C:Ctx} {c:Code} {st:St} {x:AX×St} {D D':Nat->Prop} {m m':Nat->Loc} {a:Act} {w w':World},codeA T cfg n C c st=some x->TR D m st a->Ext cfg C D m st.o w D' m' x.2.o w'->roB m' x.2.ro=roB m st.ro:=fun hx ht he=>by
    rw [(ill _ _ _ _ hx).2,roB_same ht.roD he.same]
   have hloop:∀C b st r,codeA T cfg (n+1) C (.loop b) st=some r->∀D m a w,Inv cfg D m C st.o w->TR D m st a->∀Q:Exit->Act->World->Prop,
    (∀D' m' a' w',TR D' m' r.2 a'->Ext cfg C D m st.o w D' m' r.2.o w'->Q (exitOf r.1) a' w')->Code.roundsIn (FR (roB m st.ro)) 0 P b Q (n+1) a w:=by
    intro C b st r h D m a w hi ht Q hq
    rw [codeA,codeSel,cLoop] at h
    simp only [ob_some] at h
    obtain ⟨x,hx,h⟩:=h
    rw [roundsIn_succ]
    refine ih C b st x hx D m a w hi ht _ fun D' m' a' w' ht' he=>?_
    unfold thenA at h
    cases hxe:x.1 with
    | normal=>
      rw [hxe] at h
      have:=ihl C b x.2 r h D' m' a' w' he.inv ht' Q fun D2 m2 a2 w2 ht2 he2=>hq D2 m2 a2 w2 ht2 (he.trans he2)
      rw [frame hx ht he] at this
      exact this
    | exit id=>rw [hxe] at h;cases h;rw [hxe] at hq;exact hq D' m' a' w' ht' he
    | ret=>rw [hxe] at h;cases h;rw [hxe] at hq;exact hq D' m' a' w' ht' he
   refine ⟨?_,hloop⟩
   intro C c st r h D m a w hi ht Q hq
   cases c with
   | loop b=>exact wpIn_loop_rounds (n+1) (hloop C b st r h D m a w hi ht Q hq)
   | skip=>rw [codeA,codeSel] at h;cases h;exact wpIn_skip (hq D m a w ht (Ext.refl hi))
   | label l=>rw [codeA,codeSel] at h;cases h;exact wpIn_label (hq D m a w ht (Ext.refl hi))
   | exit id=>rw [codeA,codeSel] at h;cases h;exact wpIn_exit (hq D m a w ht (Ext.refl hi))
   | ret=>rw [codeA,codeSel] at h;cases h;exact wpIn_ret (hq D m a w ht (Ext.refl hi))
   | seq c1 c2=>
     rw [codeA,codeSel,cSeq] at h
     simp only [ob_some] at h
     obtain ⟨x,hx,h⟩:=h
     refine wpIn_seq (ih C c1 st x hx D m a w hi ht _ fun D' m' a' w' ht' he=>?_)
     unfold thenA at h
     cases hxe:x.1 with
     | normal=>
       rw [hxe] at h
       have:=ih C c2 x.2 r h D' m' a' w' he.inv ht' Q fun D2 m2 a2 w2 ht2 he2=>hq D2 m2 a2 w2 ht2 (he.trans he2)
       rw [frame hx ht he] at this
       exact this
     | exit id=>rw [hxe] at h;cases h;rw [hxe] at hq;exact hq D' m' a' w' ht' he
     | ret=>rw [hxe] at h;cases h;rw [hxe] at hq;exact hq D' m' a' w' ht' he
   | cond c c1 c2=>
     rw [codeA,codeSel,cCond] at h
     simp only [ob_some] at h
     obtain ⟨v,hv,h⟩:=h
     obtain ⟨h1,_⟩:=evalA_conc hi ht hv
     unfold condA at h
     split at h
     · exact wpIn_cond_true (by rw [h1];simp [conc]) (ih C c1 st r h D m a w hi ht Q hq)
     · exact wpIn_cond_false (by rw [h1];simp [conc]) (ih C c2 st r h D m a w hi ht Q hq)
     · cases h
   | block id b=>
     rw [codeA,codeSel,cBlock] at h
     simp only [ob_some,Option.some.injEq] at h
     obtain ⟨x,hx,rfl⟩:=h
     refine wpIn_block (ih C b st x hx D m a w hi ht _ fun D' m' a' w' ht' he=>?_)
     unfold leaveA at hq
     cases hxe:x.1 with
     | normal=>rw [hxe] at hq;simp only at hq;rw [hxe] at hq;exact hq D' m' a' w' ht' he
     | ret=>rw [hxe] at hq;simp only at hq;rw [hxe] at hq;exact hq D' m' a' w' ht' he
     | exit j=>
       rw [hxe] at hq
       simp only at hq
       by_cases e:j=id
       · rw [beqT e,cond_true] at hq
         have:=hq D' m' a' w' ht' he
         simpa [Exit.inBlock,e,exitOf] using this
       · rw [beqF e,cond_false] at hq
         rw [hxe] at hq
         have:=hq D' m' a' w' ht' he
         simpa [Exit.inBlock,e,exitOf] using this
   | scope b=>
     rw [codeA,codeSel,cScope] at h
     refine wpIn_scope_straight (ih C b st r h D m a w hi ht _ fun D' m' a' w' ht' he=>?_)
     have:=hq D' m' a' w' ht' he
     cases hre:r.1<;>rw [hre] at this<;>exact this
   | region id ops draw=>
     rw [codeA,codeSel,cRegion] at h
     simp only [ob_some,Option.some.injEq] at h
     obtain ⟨st',hs,rfl⟩:=h
     exact region_ok hT hm (callA_ok hT hK ih ill (fun h=>by cases h) horc) (callA_foot hof ill) (callA_ok hT hK ih ill (fun _ h=>h) horc) (roundA_ok ih ill) hi ht hs fun D' m' a' w' ht' he=>hq D' m' a' w' ht' he
   | rangeFunc g ps assign body=>
     rw [codeA,codeSel] at h
     exact range_ok hT ih ill hi ht h hq
   | _=>cases h
end
end Go.Ev
end
section
namespace Go.Ev
open Go
def eqBool (x:Bool):AV->Bool
 | .bool y=>boolEq x y
 | _=>false
def eqInt (k:IntKind) (x:Int):AV->Bool
 | .int l y=>sameK k l&&intEq x y
 | _=>false
def eqStr (x:List UInt8):AV->Bool
 | .str y=>bytesEq x y
 | _=>false
def eqPtr (i o:Nat):AV->Bool
 | .ptr j p=>Nat.beq i j&&Nat.beq o p
 | _=>false
def eqNilptr:AV->Bool
 | .nilptr=>true
 | _=>false
def eqNilslice:AV->Bool
 | .nilslice=>true
 | _=>false
def eqNiliface:AV->Bool
 | .niliface=>true
 | _=>false
def eqIface (t:TypeId) (f:AV->Bool):AV->Bool
 | .iface u v=>Nat.beq t u&&f v
 | _=>false
def eqAgg (f:List AV->Bool):AV->Bool
 | .agg vs=>f vs
 | _=>false
def eqTuple (f:List AV->Bool):AV->Bool
 | .tuple vs=>f vs
 | _=>false
def allEq (f:AV->AV->Bool):List AV->List AV->Bool
 | [],[]=>true
 | x::xs,y::ys=>f x y&&allEq f xs ys
 | _,_=>false
def avEq:Nat->AV->AV->Bool
 | 0,_=>fun _=>false
 | d+1,a=>match a with
   | .bool x=>eqBool x
   | .int k x=>eqInt k x
   | .str x=>eqStr x
   | .ptr i o=>eqPtr i o
   | .nilptr=>eqNilptr
   | .nilslice=>eqNilslice
   | .niliface=>eqNiliface
   | .iface t v=>eqIface t (avEq d v)
   | .agg xs=>eqAgg (allEq (avEq d) xs)
   | .tuple xs=>eqTuple (allEq (avEq d) xs)
   | _=>fun _=>false
theorem allEq_eq {f:AV->AV->Bool} (hf:∀a b,f a b=true->a=b):∀{xs ys:List AV},allEq f xs ys=true->xs=ys
 | [],[],_=>rfl
 | x::xs,y::ys,h=>by
   rw [allEq,Bool.and_eq_true] at h
   rw [hf x y h.1,allEq_eq hf h.2]
 | [],_::_,h=>by cases h
 | _::_,[],h=>by cases h
theorem avEq_eq:∀(d:Nat) (a b:AV),avEq d a b=true->a=b
 | 0,a,b,h=>by cases h
 | d+1,a,b,h=>by
   have ih:=avEq_eq d
   unfold avEq at h
   cases a<;>simp only [Bool.false_eq_true] at h
   case bool x=>cases b<;>simp only [eqBool,Bool.false_eq_true,boolEq_beq,beq_iff_eq] at h;rw [h]
   case int k x=>
    cases b<;>simp only [eqInt,Bool.false_eq_true,Bool.and_eq_true,sameK_iff,intEq_iff] at h
    rw [h.1,h.2]
   case str x=>cases b<;>simp only [eqStr,Bool.false_eq_true,bytesEq_beq,beq_iff_eq] at h;rw [h]
   case ptr i o=>
    cases b<;>simp only [eqPtr,Bool.false_eq_true,Bool.and_eq_true,beq_iff] at h
    rw [h.1,h.2]
   case nilptr=>cases b<;>simp only [eqNilptr,Bool.false_eq_true] at h;rfl
   case nilslice=>cases b<;>simp only [eqNilslice,Bool.false_eq_true] at h;rfl
   case niliface=>cases b<;>simp only [eqNiliface,Bool.false_eq_true] at h;rfl
   case iface t v=>
    cases b<;>simp only [eqIface,Bool.false_eq_true,Bool.and_eq_true,beq_iff] at h
    rw [h.1,ih _ _ h.2]
   case agg xs=>cases b<;>simp only [eqAgg,Bool.false_eq_true] at h;rw [allEq_eq ih h]
   case tuple xs=>cases b<;>simp only [eqTuple,Bool.false_eq_true] at h;rw [allEq_eq ih h]
abbrev Memo:=Tb (List (List AV×AV))
def lookE:List (List AV×AV)->List AV->Option AV
 | [],_=>none
 | e::es,args=>bif allEq (avEq 8) e.1 args then some e.2 else lookE es args
def orcV (b:Option (AV×Own)) (o:Own):Option AV->Option (AV×Own)
 | some v=>some (v,o)
 | none=>b
def orcM (M:Memo) (base:FuncId->Ctx->List AV->Own->Option (AV×Own)) (f:FuncId) (C:Ctx) (args:List AV) (o:Own):Option (AV×Own):=orcV (base f C args o) o (ob (M.get f) fun l=>lookE l args)
def cfgM (cfg:Cfg) (M:Memo):Cfg:=⟨cfg.G,cfg.lend,cfg.canon,orcM M cfg.orc,cfg.root⟩
def Fact (P:Program) (cfg:Cfg) (f:FuncId) (args:List AV) (v:AV):Prop:=∀C D m o w,Inv cfg D m C o w->okL D m args->
 CallS P f (concL m args).toArray w fun V w'=>V=conc m v/\okV D m v/\Ext cfg C D m o w D m o w'/\Mute D w D m w'
def MemoOK (P:Program) (cfg:Cfg) (M:Memo):Prop:=∀f l,M.get f=some l->∀e∈l,Fact P cfg f e.1 e.2
structure Good (P:Program) (T:Tab) (cfg:Cfg):Prop where
 tab:TabOK P T
 mixed:P.follows .mixedOrders=true
 lv:CfgOK cfg
 orc:CallOK P cfg True fun C f args o=>cfg.orc f C args o
 foot:CallFoot cfg fun C f args o=>cfg.orc f C args o
theorem lookE_some:∀{l:List (List AV×AV)} {args:List AV} {v:AV},lookE l args=some v->(args,v)∈l
 | [],args,v,h=>by cases h
 | e::es,args,v,h=>by
   rw [lookE] at h
   cases hb:allEq (avEq 8) e.1 args with
   | true=>
     rw [hb,cond_true,Option.some.injEq] at h
     have:=allEq_eq (avEq_eq 8) hb
     rw [←this,←h]
     exact List.mem_cons_self
   | false=>rw [hb,cond_false] at h;exact List.mem_cons_of_mem _ (lookE_some h)
theorem Inv.to {cfg cfg':Cfg} (hG:cfg'.G=cfg.G) (hr:cfg'.root=cfg.root) {D:Nat->Prop} {m:Nat->Loc} {C:Ctx} {o:Own} {w:World} (h:Inv cfg D m C o w):Inv cfg' D m C o w:=
 ⟨h.obj,h.inj,h.lt,by rw [hG];exact h.glob,by rw [hr];exact h.root,by rw [hr];exact h.le,by rw [hr];exact h.lo,h.len⟩
theorem Ext.to {cfg cfg':Cfg} (hG:cfg'.G=cfg.G) (hr:cfg'.root=cfg.root) {C:Ctx} {D D':Nat->Prop} {m m':Nat->Loc} {o o':Own} {w w':World} (h:Ext cfg C D m o w D' m' o' w'):Ext cfg' C D m o w D' m' o' w':=
 ⟨h.inv.to hG hr,h.sub,h.same,h.new,h.grow,h.os,h.tape,h.output,h.size,h.frame,h.leIds,h.fresh⟩
theorem Good.memo {P:Program} {T:Tab} {cfg:Cfg} (g:Good P T cfg) {M:Memo} (hM:MemoOK P cfg M):Good P T (cfgM cfg M):=by
 refine ⟨g.tab,g.mixed,⟨g.lv.loops,g.lv.G,g.lv.root⟩,fun C f args o r h D m w hi hok=>?_,fun C f args o r h hl=>?_⟩
 · have h':orcV (cfg.orc f C args o) o (ob (M.get f) fun l=>lookE l args)=some r:=h
   have hi':Inv cfg D m C o w:=Inv.to (cfg:=cfgM cfg M) (cfg':=cfg) rfl rfl hi
   cases hx:(ob (M.get f) fun l=>lookE l args) with
   | some v=>
     rw [hx] at h'
     cases h'
     rw [ob_some] at hx
     obtain ⟨l,hl,hv⟩:=hx
     exact (hM f l hl _ (lookE_some hv) C D m o w hi' hok).mono fun V w' ⟨h1,h2,h3,h4⟩=>⟨D,m,h1,h2,Ext.to (cfg:=cfg) (cfg':=cfgM cfg M) rfl rfl h3,fun _ _=>h4⟩
   | none=>
     rw [hx] at h'
     exact (g.orc C f args o r h' D m w hi' hok).mono fun V w' ⟨D',m',h1,h2,h3,h4⟩=>⟨D',m',h1,h2,Ext.to (cfg:=cfg) (cfg':=cfgM cfg M) rfl rfl h3,h4⟩
 · have h':orcV (cfg.orc f C args o) o (ob (M.get f) fun l=>lookE l args)=some r:=h
   cases hx:(ob (M.get f) fun l=>lookE l args) with
   | some v=>rw [hx] at h';cases h';exact .refl hl
   | none=>rw [hx] at h';exact g.foot C f args o r h' hl
def isV (v:AV):Option AV->Bool
 | some x=>avEq 8 x v
 | none=>false
def callQ (T:Tab) (cfg:Cfg) (n:Nat) (args:List AV) (fc:Func×Code):Option AV:=callP T cfg (codeA T cfg n) fc.1 fc.2 args
def chk (T:Tab) (cfg:Cfg) (n:Nat) (f:FuncId) (args:List AV) (v:AV):Bool:=belowL cfg.root.n args&&isV v (ob (bodyOf T f) (callQ T cfg n args))
theorem Good.fact {P:Program} {T:Tab} {cfg:Cfg} (g:Good P T cfg) (n:Nat) {f:FuncId} {args:List AV} {v:AV} (h:chk T cfg n f args v=true):Fact P cfg f args v:=by
 intro C D m o w hi hok
 rw [chk,Bool.and_eq_true] at h
 obtain ⟨hb,h⟩:=h
 cases hx:ob (bodyOf T f) (callQ T cfg n args) with
 | none=>rw [hx] at h;cases h
 | some x=>
   rw [hx] at h
   have e:=avEq_eq 8 x v h
   subst e
   rw [ob_some] at hx
   obtain ⟨⟨fn,c⟩,hbo,hc⟩:=hx
   exact callP_ok g.tab g.lv (code_ok g.tab g.mixed g.lv g.orc g.foot n).1 (code_ll g.foot n) hbo hb hc hi hok
theorem fact_cons {P:Program} {cfg:Cfg} {f:FuncId} {args:List AV} {v:AV} {l:List (List AV×AV)} (h:Fact P cfg f args v) (hl:∀e∈l,Fact P cfg f e.1 e.2):∀e∈(args,v)::l,Fact P cfg f e.1 e.2:=fun e he=>by
 rcases List.mem_cons.1 he with rfl|he
 · exact h
 · exact hl e he
theorem fact_nil {P:Program} {cfg:Cfg} {f:FuncId}:∀e∈([]:List (List AV×AV)),Fact P cfg f e.1 e.2:=fun e he=>by cases he
end Go.Ev
end
