import Derived.Test.YtafekjglclnegaaGreatDoorP06
set_option linter.all false
namespace Go.Ev
open Go Go.RowKit
theorem wrap_small (n:Nat) (h:n≤10000):IntKind.i64.wrap (n:Int)=(n:Int):=wrap_id .i64 _ (by simp only [loK];omega) (by simp only [hiK];omega)
theorem getObj_run {P:Program} {w:World} {r:Nat} {x:Obj} (h:w.heap[r]? = some x) (hx:∀c e f,x≠.cells c e f):(getObj r).run P w=.ok x w:=by
 cases x<;>first|exact absurd rfl (hx _ _ _)|simp [getObj,Sem.run,h]
theorem setObj_run {P:Program} {w:World} {r:Nat} {x y:Obj} (h:w.heap[r]? = some x) (hx:∀c e f,x≠.cells c e f):(setObj r y).run P w=.ok () { w with heap:=w.heap.setIfInBounds r y }:=by
 cases x<;>first|exact absurd rfl (hx _ _ _)|simp [setObj,Sem.run,h]
theorem setObj_other (w:World) (r k:Nat) (y:Obj) (h:k≠r):({ w with heap:=w.heap.setIfInBounds r y }:World).heap[k]? = w.heap[k]? := by
 simp only [Array.getElem?_setIfInBounds];rw [if_neg (fun e=>h e.symm)]
theorem setObj_same (w:World) (r:Nat) (x y:Obj) (h:w.heap[r]? = some x):({ w with heap:=w.heap.setIfInBounds r y }:World).heap[r]? = some y:=by
 have:=(Array.getElem?_eq_some_iff.1 h).1
 simp [this]
theorem sameNow_eq {m:Nat->Loc} {d:TypeDesc} {k e:AV} {b:Bool} (hk:keyD k (some d)=true) (h:keyEq k e=some b):Instr.sameNow d (conc m k) (conc m e)=some b:=by
 cases d<;>simp only [keyD,Bool.false_eq_true] at hk<;>cases k<;>simp at hk<;>cases e<;>simp only [keyEq,reduceCtorEq,ok_some,sameK_iff,Option.some.injEq] at h
 · subst h;simp [Instr.sameNow,conc,boolEq_beq]
 · obtain ⟨rfl,rfl⟩:=h;simp [Instr.sameNow,conc,intEq_beq]
 · subst h
   simp only [Instr.sameNow,conc,Option.some.injEq,bytesEq_beq]
   rw [beq_toListBytes,toList_mk',toList_mk']
theorem findNow_eq {m:Nat->Loc} {d:TypeDesc} {k:AV} (hk:keyD k (some d)=true):∀{es:List (AV×AV)} {en:List MapEntry} {r:Option AV} {i:Nat},en.map (fun e=>(e.key,e.val))=es.map (fun e=>(conc m e.1,conc m e.2))->findA k es=some r->
 ∃q,Instr.findNow d (conc m k) en i=some q/\q.map (·.2)=r.map (conc m)
 | [],en,r,i,he,h=>by
   cases h
   cases en with
   | nil=>exact ⟨none,rfl,rfl⟩
   | cons _ _=>simp at he
 | e::es,en,r,i,he,h=>by
   cases en with
   | nil=>simp at he
   | cons n en=>
     simp only [List.map_cons,List.cons.injEq,Prod.mk.injEq] at he
     obtain ⟨⟨h1,h2⟩,he⟩:=he
     simp only [findA,ob_some] at h
     obtain ⟨b,hb,h⟩:=h
     have hs:=sameNow_eq (m:=m) hk hb
     cases b with
     | true=>
       simp only [cond_true,Option.some.injEq] at h
       subst h
       exact ⟨some (i,n.val),by simp [Instr.findNow,h1,hs],by simp [h2]⟩
     | false=>
       simp only [cond_false] at h
       obtain ⟨q,hq,hqr⟩:=findNow_eq hk (i:=i+1) he h
       exact ⟨q,by simp [Instr.findNow,h1,hs,hq],hqr⟩
theorem keyEq_true {k e:AV} (h:keyEq k e=some true):k=e:=by
 cases e<;>simp only [keyEq,reduceCtorEq] at h<;>cases k<;>simp only [reduceCtorEq,ok_some,sameK_iff,Option.some.injEq] at h
 · rw [boolEq_beq,beq_iff_eq] at h;rw [h]
 · rw [intEq_iff] at h;rw [h.1,h.2]
 · rw [bytesEq_beq,beq_iff_eq] at h;rw [h]
theorem findNow_set {m:Nat->Loc} {d:TypeDesc} {k v:AV} (hk:keyD k (some d)=true):∀{es es':List (AV×AV)} {en:List MapEntry} {i:Nat},en.map (fun e=>(e.key,e.val))=es.map (fun e=>(conc m e.1,conc m e.2))->setE k v es=some es'->
 ∃j x,Instr.findNow d (conc m k) en i=some (some (i+j,x))/\(∃e,en[j]? = some e/\e.key=conc m k)/\(en.modify j fun e=>{ e with key:=conc m k,val:=conc m v }).map (fun e=>(e.key,e.val))=es'.map (fun e=>(conc m e.1,conc m e.2))
 | [],es',en,i,he,h=>by cases h
 | e::es,es',en,i,he,h=>by
   cases en with
   | nil=>simp at he
   | cons n en=>
     simp only [List.map_cons,List.cons.injEq,Prod.mk.injEq] at he
     obtain ⟨⟨h1,h2⟩,he⟩:=he
     simp only [setE,ob_some] at h
     obtain ⟨b,hb,h⟩:=h
     have hs:=sameNow_eq (m:=m) hk hb
     cases b with
     | true=>
       simp only [cond_true,Option.some.injEq] at h
       subst h
       exact ⟨0,n.val,by simp [Instr.findNow,h1,hs],⟨n,rfl,by rw [h1,keyEq_true hb]⟩,by simp [he]⟩
     | false=>
       simp only [cond_false,ob_some,Option.some.injEq] at h
       obtain ⟨es1,hes,rfl⟩:=h
       obtain ⟨j,x,a1,⟨e1,a2,a3⟩,a4⟩:=findNow_set hk (i:=i+1) he hes
       refine ⟨j+1,x,?_,⟨e1,by simpa using a2,a3⟩,?_⟩
       · simp only [Instr.findNow,h1,hs]
         rw [show i+(j+1)=i+1+j by omega,←a1]
       · simp [h1,h2,a4]
theorem setE_ok {D:Nat->Prop} {m:Nat->Loc} {k v:AV} (hk:okV D m k) (hv:okV D m v):∀{es es':List (AV×AV)},setE k v es=some es'->(∀e∈es,okV D m e.1/\okV D m e.2)->∀e∈es',okV D m e.1/\okV D m e.2
 | [],es',h,_=>by cases h
 | e::es,es',h,ho=>by
   simp only [setE,ob_some] at h
   obtain ⟨b,hb,h⟩:=h
   cases b with
   | true=>
     simp only [cond_true,Option.some.injEq] at h
     subst h
     intro x hx
     rcases List.mem_cons.1 hx with rfl|hx
     · exact ⟨hk,hv⟩
     · exact ho x (List.mem_cons_of_mem _ hx)
   | false=>
     simp only [cond_false,ob_some,Option.some.injEq] at h
     obtain ⟨es1,hes,rfl⟩:=h
     intro x hx
     rcases List.mem_cons.1 hx with rfl|hx
     · exact ho x List.mem_cons_self
     · exact setE_ok hk hv hes (fun e he=>ho e (List.mem_cons_of_mem _ he)) x hx
theorem sameBits_self {m:Nat->Loc} {d:TypeDesc} {k:AV} (hk:keyD k (some d)=true):Instr.sameBits 10000 (conc m k) (conc m k)=true:=by
 cases d<;>simp only [keyD,Bool.false_eq_true] at hk<;>cases k<;>simp at hk<;>simp only [conc,Instr.sameBits]<;>first|(simp;done)|(rw [beq_toListBytes];simp)
theorem checkKey_run {P:Program} {m:Nat->Loc} {d:TypeDesc} {t:TypeId} {k:AV} {b:Bool} {w:World} (hk:keyD k (some d)=true) (hu:(underlying t).run P w=.ok d w):(Instr.checkKey b 10000 t (conc m k)).run P w=.ok () w:=by
 unfold Instr.checkKey
 simp only [Sem.run_bind,hu,Result.andThen_ok]
 cases d<;>simp only [keyD,Bool.false_eq_true] at hk<;>cases k<;>simp at hk<;>simp [conc]
theorem findKey_run {P:Program} {m:Nat->Loc} {d:TypeDesc} {t:TypeId} {k:AV} {w:World} {es:List (AV×AV)} {en:List MapEntry} {r:Option AV} (hk:keyD k (some d)=true) (hu:(underlying t).run P w=.ok d w)
 (he:en.map (fun e=>(e.key,e.val))=es.map (fun e=>(conc m e.1,conc m e.2))) (h:findA k es=some r):∃q,(Instr.findKey t (conc m k) en).run P w=.ok q w/\q.map (·.2)=r.map (conc m):=by
 obtain ⟨q,hq,hqr⟩:=findNow_eq (m:=m) hk (i:=0) he h
 exact ⟨q,by simp [Instr.findKey,hu,hq],hqr⟩
theorem findA_mem {D:Nat->Prop} {m:Nat->Loc} {k v:AV}:∀{es:List (AV×AV)},findA k es=some (some v)->(∀e∈es,okV D m e.1/\okV D m e.2)->okV D m v
 | [],h,_=>by cases h
 | e::es,h,ho=>by
   simp only [findA,ob_some] at h
   obtain ⟨b,hb,h⟩:=h
   cases b with
   | true=>simp only [cond_true,Option.some.injEq] at h;subst h;exact (ho e (by simp)).2
   | false=>simp only [cond_false] at h;exact findA_mem h (fun e he=>ho e (by simp [he]))
section
variable {P:Program} {T:Tab} (hT:TabOK P T) {cfg:Cfg} {C:Ctx} {D:Nat->Prop} {m:Nat->Loc} {o:Own} {w:World} (hi:Inv cfg D m C o w) {ρ:Operand->Option AV} {ev:Operand->Value} (hρ:RhoOK D m ρ ev)
include hT hi hρ
omit hi hρ in
theorem small_some {t:TypeId} (h:smallT T t=true):∃i,T.inf t=some i/\i.bytes≤100000:=by
 unfold smallT at h
 split at h
 · rename_i i hi
   exact ⟨i,hi,ble_iff.1 h⟩
 · cases h
theorem do_makeSlice {oo:Oper} {t:TypeId} {l c:Operand} {r:AV×Own} (ho:oo.op=.makeSlice t l c) (h:doMakeSlice t l c T C ρ o=some r):OpS P cfg C D m o w ev oo r:=by
 simp only [doMakeSlice,makeSliceA,ob_some,ok_some,Bool.and_eq_true,ble_iff,beq_iff,natLt_iff,Option.some.injEq] at h
 obtain ⟨lv,hlv,cv,hcv,elem,he,n,hn,z,hz,cn,hcn,ln,hln,⟨⟨⟨⟨hl,h0⟩,hb⟩,hsm⟩,_⟩,rfl⟩:=h
 obtain ⟨kc,rfl,hc1⟩:=natA_some hcn
 obtain ⟨kl,rfl,hl1⟩:=natA_some hln
 have e1:=(hρ l _ hlv).1
 have e2:=(hρ c _ hcv).1
 obtain ⟨hz1,hz2⟩:=run_zero hT (m:=m) hz w
 obtain ⟨inf,hinf,hby⟩:=small_some hT hsm
 have hmul:inf.bytes*cn≤100000*10000:=Nat.mul_le_mul hby hc1
 have hmul2:inf.bytes*ln≤100000*10000:=Nat.mul_le_mul hby (Nat.le_trans hl1 hc1)
 have hcs:okL D m (repA (cellsA z) cn):=repA_ok (okL_zero hz2) cn
 have he':=Ext.fresh1 hi (.cells (repA (cellsA z) cn) true none) ⟨w.heap.size,0,0⟩ (.cells (concL m (repA (cellsA z) cn)).toArray elem) rfl rfl rfl rfl rfl (cells_new rfl hcs)
 refine ⟨_,_,_,.value (.slice (some ⟨w.heap.size,0,none⟩) ln cn),?_,.inl ?_,?_,he'⟩
 · have hrep:(Array.range (cn*n)).map (fun i=>(if cn*n=0 then #[] else (concL m (cellsA z)).toArray)[i%(if cn*n=0 then #[] else (concL m (cellsA z)).toArray).size]!)=(concL m (repA (cellsA z) cn)).toArray:=by
    by_cases hz0:cn*n=0
    · have:cn=0:=by rcases Nat.mul_eq_zero.1 hz0 with h|h<;>omega
      subst this
      apply Array.toList_inj.1
      simp [repA,concL]
    · rw [if_neg hz0]
      exact rep_conc (m:=m) (cellsA z) (by omega) cn (cn*n) (by rw [hl])
   have hw1:=wrap_small cn hc1
   have hw2:=wrap_small ln (by omega)
   have t1:¬((cn:Int)<0):=by omega
   have t2:¬((inf.bytes:Int)*(cn:Int) > 2^48):=by
    have:(inf.bytes:Int)*(cn:Int)=((inf.bytes*cn:Nat):Int):=by simp
    rw [this];omega
   have t3:¬((ln:Int)<0):=by omega
   have t4:¬((ln:Int) > (cn:Int)):=by omega
   simp only [execOp,ho,e1,e2,conc,Int.ofNat_eq_natCast,Instr.makeSlice,Sem.run_bind,run_und hT (und_elem he) w,Result.andThen_ok,asInt,asIntOf,Sem.run_pure,run_inf hT hinf w,hw1,hw2,t1,t2,t3,t4,decide_false,Bool.or_self,Bool.false_eq_true,if_false,run_askRoom,run_sz hT hn w,Int.toNat_natCast]
   by_cases hz0:cn*n=0
   · simp only [hz0,if_true,Sem.run_pure,Result.andThen_ok] at hrep ⊢
     simp only [hrep,newRow,Sem.run_bind,run_newObj,Result.andThen_ok,Sem.run_pure];rfl
   · simp only [hz0,if_false,Sem.run_pure,Result.andThen_ok,Sem.run_bind,hz1,conc_cells] at hrep ⊢
     simp only [hrep,newRow,Sem.run_bind,run_newObj,Result.andThen_ok,Sem.run_pure];rfl
 · simp [conc,capC,Own.next,upd_eq]
 · intro i hm
   simp only [idsA,List.mem_singleton,needC] at hm
   subst hm
   exact ⟨ok_new,Nat.zero_le _⟩
omit hi hρ in
theorem mapD_some {t kt et:TypeId} (h:mapD (T.und t)=some (kt,et)):T.und t=some (.map kt et):=by
 cases hu:T.und t with
 | none=>simp [hu,mapD] at h
 | some d=>cases d<;>simp [hu,mapD] at h;simp [h]
theorem do_mapUp {oo:Oper} {t:TypeId} {mo k x:Operand} {r:AV×Own} (ho:oo.op=.insert t mo k x∨oo.op=.mapUpdate t mo k x) (h:doMapUp t mo k x T C ρ o=some r):OpS P cfg C D m o w ev oo r:=by
 simp only [doMapUp,mapUpA,ob_some,ok_some] at h
 obtain ⟨mv,hmv,kv,hkv,v,hv,⟨kt,et⟩,hmt,hkd,h⟩:=h
 simp only at hkd
 obtain ⟨e1,o1⟩:=hρ mo _ hmv
 obtain ⟨e2,o2⟩:=hρ k _ hkv
 obtain ⟨e3,o3⟩:=hρ x _ hv
 cases mv<;>simp only [insertA,reduceCtorEq,ob_some] at h
 rename_i id
 have hd:D id:=(o1 (id,0) (by simp [idsA])).1
 obtain ⟨y,hy,es,hes,rr,hf,h⟩:=h
 cases y<;>simp only [entriesOf,reduceCtorEq,Option.some.injEq] at hes
 subst hes
 have hob:=hi.obj id hd
 rw [own_get hy] at hob
 obtain ⟨en,ck,hb,hen,hoe⟩:=hob
 cases hud:T.und kt with
 | none=>rw [hud] at hkd;simp [keyD] at hkd
 | some d=>
   rw [hud] at hkd
   have hck:=checkKey_run (P:=P) (w:=w) (m:=m) (b:=false) hkd (run_und hT hud w)
   have hg:=getObj_run (P:=P) hb (by simp)
   cases rr with
   | none=>
     simp only [Option.some.injEq] at h
     subst h
     obtain ⟨q,hq,hqr⟩:=findKey_run (P:=P) (w:=w) (m:=m) hkd (run_und hT hud w) hen hf
     have hq0:q=none:=by cases q<;>simp at hqr;rfl
     subst hq0
     have hst:=setObj_run (P:=P) (y:=.map (en.push { key:=conc m kv,val:=conc m v,born:=ck }) (ck+1)) hb (by simp)
     refine ⟨D,m,{ w with heap:=w.heap.setIfInBounds (m id).blk (.map (en.push { key:=conc m kv,val:=conc m v,born:=ck }) (ck+1)) },.skip,?_,.inr ⟨rfl,rfl⟩,okV_undef,Ext.put hi hd hy rfl ?_ ?_ ?_ rfl rfl rfl⟩
     · have:(Instr.mapUpdate t (conc m (.map id)) (conc m kv) (conc m v)).run P w=.ok () { w with heap:=w.heap.setIfInBounds (m id).blk (.map (en.push { key:=conc m kv,val:=conc m v,born:=ck }) (ck+1)) }:=by
        simp only [Instr.mapUpdate,conc,Sem.run_bind,run_und hT (mapD_some hT hmt) w,Result.andThen_ok,hg,hck,hq,hst]
       rcases ho with ho|ho<;>simp only [execOp,ho,e1,e2,e3,Sem.run_bind,this,Result.andThen_ok,Sem.run_pure]
     · simp
     · intro j hj;exact setObj_other _ _ _ _ hj
     · rw [setObj_same _ _ _ _ hb]
       refine ⟨_,_,rfl,?_,?_⟩
       · simp [hen]
       · intro e he
         rcases List.mem_append.1 he with he|he
         · exact hoe e he
         · simp only [List.mem_singleton] at he;subst he;exact ⟨o2,o3⟩
   | some old=>
     simp only [ob_some,Option.some.injEq] at h
     obtain ⟨es',hset,rfl⟩:=h
     obtain ⟨j,xv,hfn,⟨e0,he0,hek⟩,hmap⟩:=findNow_set (m:=m) hkd (i:=0) hen hset
     rw [Nat.zero_add] at hfn
     have hq:(Instr.findKey kt (conc m kv) en.toList).run P w=.ok (some (j,xv)) w:=by simp [Instr.findKey,run_und hT hud w,hfn]
     have hst:=setObj_run (P:=P) (y:=.map (en.modify j fun e=>{ e with key:=conc m kv,val:=conc m v }) ck) hb (by simp)
     have hek':((en[j]?).map (·.key)).getD (conc m kv)=conc m kv:=by
      rw [←Array.getElem?_toList,he0];simp [hek]
     refine ⟨D,m,{ w with heap:=w.heap.setIfInBounds (m id).blk (.map (en.modify j fun e=>{ e with key:=conc m kv,val:=conc m v }) ck) },.skip,?_,.inr ⟨rfl,rfl⟩,okV_undef,Ext.put hi hd hy rfl ?_ ?_ ?_ rfl rfl rfl⟩
     · have:(Instr.mapUpdate t (conc m (.map id)) (conc m kv) (conc m v)).run P w=.ok () { w with heap:=w.heap.setIfInBounds (m id).blk (.map (en.modify j fun e=>{ e with key:=conc m kv,val:=conc m v }) ck) }:=by
        simp only [Instr.mapUpdate,conc,Sem.run_bind,run_und hT (mapD_some hT hmt) w,Result.andThen_ok,hg,hck,hq,hek',Instr.keyThatStays,sameBits_self hkd,if_true,Sem.run_pure,hst]
       rcases ho with ho|ho<;>simp only [execOp,ho,e1,e2,e3,Sem.run_bind,this,Result.andThen_ok,Sem.run_pure]
     · simp
     · intro j' hj;exact setObj_other _ _ _ _ hj
     · rw [setObj_same _ _ _ _ hb]
       exact ⟨_,_,rfl,by rw [Array.toList_modify];exact hmap,setE_ok o2 o3 hset hoe⟩
theorem do_lookup {oo:Oper} {t:TypeId} {x ix:Operand} {okv:Bool} {r:AV×Own} (ho:oo.op=.lookup t x ix okv) (h:doLookup t x ix okv T C ρ o=some r):OpS P cfg C D m o w ev oo r:=by
 simp only [doLookup,keep_some,lookA,ob_some,ok_some] at h
 obtain ⟨⟨mv,hmv,kv,hkv,⟨kt,et⟩,hmt,hkd,h⟩,hr⟩:=h
 simp only at hkd h
 obtain ⟨e1,o1⟩:=hρ x _ hmv
 obtain ⟨e2,o2⟩:=hρ ix _ hkv
 cases mv<;>simp only [lookupA,reduceCtorEq,ob_some] at h
 rename_i id
 have hd:D id:=(o1 (id,0) (by simp [idsA])).1
 obtain ⟨es,hes,rr,hf,h⟩:=h
 have hob:=hi.obj id hd
 cases hy:get C o id<;>simp only [hy,entriesOf,reduceCtorEq,Option.some.injEq] at hes
 subst hes
 rw [hy] at hob
 obtain ⟨en,ck,hb,hen,hoe⟩:=hob
 cases hud:T.und kt with
 | none=>rw [hud] at hkd;simp [keyD] at hkd
 | some d=>
   rw [hud] at hkd
   obtain ⟨q,hq,hqr⟩:=findKey_run (P:=P) (w:=w) (m:=m) hkd (run_und hT hud w) hen hf
   have hck:=checkKey_run (P:=P) (w:=w) (m:=m) (b:=en.isEmpty) hkd (run_und hT hud w)
   have hg:=getObj_run (P:=P) hb (by simp)
   cases rr with
   | some v=>
     simp only [Option.some.injEq] at h
     have hv:=findA_mem hf hoe
     cases q with
     | none=>simp at hqr
     | some q=>
       simp only [Option.map_some,Option.some.injEq] at hqr
       refine OpOK.pure hi hr ?_ ?_
       · rw [←h]
         simp only [execOp,ho,e1,e2,conc,Instr.lookup,Sem.run_bind,run_und hT (mapD_some hT hmt) w,Result.andThen_ok,hg,hck,hq,Sem.run_pure]
         cases okv<;>simp [answerA,conc,concL,hqr]
       · rw [←h]
         cases okv
         · exact hv
         · exact okV_tuple.2 (okL_cons.2 ⟨hv,okL_cons.2 ⟨okV_bool,okL_nil⟩⟩)
   | none=>
     simp only [ob_some,Option.some.injEq] at h
     obtain ⟨z,hz,h⟩:=h
     obtain ⟨hz1,hz2⟩:=run_zero hT (m:=m) hz w
     have hq0:q=none:=by cases q<;>simp at hqr;rfl
     subst hq0
     refine OpOK.pure hi hr ?_ ?_
     · rw [←h]
       simp only [execOp,ho,e1,e2,conc,Instr.lookup,Sem.run_bind,run_und hT (mapD_some hT hmt) w,Result.andThen_ok,hg,hck,hq,Sem.run_pure,hz1]
       cases okv<;>simp [answerA,conc,concL]
     · rw [←h]
       cases okv
       · exact okV_none hz2
       · exact okV_tuple.2 (okL_cons.2 ⟨okV_none hz2,okL_cons.2 ⟨okV_bool,okL_nil⟩⟩)
theorem do_range {oo:Oper} {t:TypeId} {x:Operand} {r:AV×Own} (ho:oo.op=.range t x) (h:doRange t x T C ρ o=some r):OpS P cfg C D m o w ev oo r:=by
 simp only [doRange,ob_some] at h
 obtain ⟨v,hv,h⟩:=h
 obtain ⟨e1,o1⟩:=hρ x _ hv
 cases v<;>simp only [rangeA,reduceCtorEq,ok_some,Option.some.injEq] at h
 rename_i s
 obtain ⟨hs,rfl⟩:=h
 have he':=Ext.fresh1 hi (.siter s 0) ⟨w.heap.size,0,0⟩ (.stringIter ⟨⟨s⟩⟩ 0) rfl rfl rfl rfl rfl ⟨rfl,rfl⟩
 refine ⟨_,_,_,.value (.pointer (some ⟨w.heap.size,0,none⟩)),?_,.inl ?_,ok_ptr_new,he'⟩
 · simp only [execOp,ho,e1,conc,Instr.range,Sem.run_bind,run_und hT (und_str hs) w,Result.andThen_ok,Sem.run_pure,run_newObj];rfl
 · simp [conc,Own.next,upd_eq]
omit hT in
theorem do_next {oo:Oper} {it:Operand} {s:Bool} {r:AV×Own} (ho:oo.op=.next it s) (h:doNext it s T C ρ o=some r):OpS P cfg C D m o w ev oo r:=by
 simp only [doNext,ok_some,ob_some] at h
 obtain ⟨rfl,v,hv,h⟩:=h
 obtain ⟨e1,o1⟩:=hρ it _ hv
 unfold nextA at h
 split at h
 · rename_i id
   simp only [ob_some] at h
   obtain ⟨y,hy,h⟩:=h
   have hd:D id:=(o1 (id,0) (by simp [idsA])).1
   cases y<;>simp only [nextObj,reduceCtorEq,Option.some.injEq] at h
   rename_i s pos
   subst h
   have hob:=hi.obj id hd
   rw [own_get hy] at hob
   obtain ⟨hob,hbase⟩:=hob
   have hg:=getObj_run (P:=P) hob (by simp)
   have hsz:(ByteArray.mk ⟨s⟩).size=s.length:=rfl
   unfold nextS
   cases hlt:natLt pos s.length with
   | true=>
     have hp:=natLt_iff.1 hlt
     simp only [cond_true]
     have hst:=setObj_run (P:=P) (y:=.stringIter ⟨⟨s⟩⟩ (pos+(Utf8.decode ⟨⟨s⟩⟩ pos).2)) hob (by simp)
     refine ⟨D,m,{ w with heap:=w.heap.setIfInBounds (m id).blk (.stringIter ⟨⟨s⟩⟩ (pos+(Utf8.decode ⟨⟨s⟩⟩ pos).2)) },.value (.tuple #[.bool true,.int .i64 pos,.int .i32 (Utf8.decode ⟨⟨s⟩⟩ pos).1]),?_,.inl ?_,?_,Ext.put hi hd hy rfl ?_ ?_ ?_ rfl rfl rfl⟩
     · simp only [execOp,ho,e1,conc,hbase,Instr.next,Sem.run_bind,hg,Result.andThen_ok,hsz,if_pos hp,hst,Sem.run_pure,Go.goInt]
     · simp [conc,concL,goInt_eq,outN_eq]
     · exact okV_tuple.2 (okL_cons.2 ⟨okV_bool,okL_cons.2 ⟨by rw [goInt_eq];exact okV_int,okL_cons.2 ⟨by rw [outN_eq];exact okV_int,okL_nil⟩⟩⟩)
     · simp
     · intro j hj;exact setObj_other _ _ _ _ hj
     · rw [setObj_same _ _ _ _ hob];exact ⟨rfl,hbase⟩
   | false=>
     have hp:¬pos<s.length:=by have:=natLt_false.1 hlt;omega
     simp only [cond_false]
     refine OpOK.pure hi rfl ?_ (okV_tuple.2 (okL_cons.2 ⟨okV_bool,okL_nil⟩))
     simp only [execOp,ho,e1,conc,hbase,Instr.next,Sem.run_bind,hg,Result.andThen_ok,hsz,if_neg hp,Sem.run_pure,concL]
 · cases h
end
theorem growBy_le (newLen:Nat):∀(r c:Nat),Builtin.growBy newLen r c≤2^r*(c+768)
 | 0,c=>by simp [Builtin.growBy]
 | r+1,c=>by
   have hp:2^(r+1)=2*2^r:=by rw [Nat.pow_succ];omega
   have h1:0<2^r:=Nat.two_pow_pos r
   unfold Builtin.growBy
   split
   · rw [hp,Nat.mul_assoc]
     have:1*(c+768)≤2^r*(c+768):=Nat.mul_le_mul_right _ h1
     omega
   · refine Nat.le_trans (growBy_le newLen r _) ?_
     rw [hp,Nat.mul_comm 2,Nat.mul_assoc]
     exact Nat.mul_le_mul_left _ (by omega)
theorem nextcap_le {need cap:Nat} (h:cap<need) (hn:need≤1000000):Builtin.nextslicecap need cap≤20000000:=by
 unfold Builtin.nextslicecap
 split
 · omega
 · split
   · omega
   · refine Nat.le_trans (growBy_le need 4 cap) ?_
     omega
theorem Ext.again {cfg:Cfg} {C:Ctx} {D:Nat->Prop} {m:Nat->Loc} {o:Own} {w w':World} (h:Inv cfg D m C o w) {x:AObj} {l:Loc} {id:Nat} (hd:D id) (ho:(own? C o id).isSome=true) (hl:l.blk=(m id).blk)
 (hlv:∀j,D j->live (get C o j)=true->(m j).blk≠(m id).blk) (hw:∀k,k≠(m id).blk->w'.heap[k]? = w.heap[k]?) (hsz:w.heap.size≤w'.heap.size) (hx:ObjRel D m l x w'.heap[l.blk]?)
 (hos:w'.os=w.os) (ht:w'.tape=w.tape) (hu:w'.output=w.output) :
 Ext cfg C D m o w (addD D (C.lo+o.n)) (upd m (C.lo+o.n) l) (o.push x) w':=by
 have h':Inv cfg D m C o w':=h.world fun j hj hlj=>hw _ (hlv j hj hlj)
 refine ⟨h'.push (fun j hj hlj=>by rw [hl];exact hlv j hj hlj) hx,fun i hi=>.inl hi,fun i hi=>?_,?_,by simp [Own.push],hos,ht,hu,hsz,fun k _ hn=>hw k (fun e=>hn id hd ho e.symm),rfl,?_⟩
 · have:=h.lt i hi;exact upd_ne (by omega)
 · rintro i (hi|rfl)
   · exact .inl hi
   · exact .inr (Nat.le_refl _)
 · rintro i (hi|rfl) hn
   · exact absurd hi hn
   · rw [upd_eq];exact .inr ⟨id,hd,ho,hl.symm⟩
section
variable {P:Program} {T:Tab} (hT:TabOK P T) {cfg:Cfg} {C:Ctx} {D:Nat->Prop} {m:Nat->Loc} {o:Own} {w:World} (hi:Inv cfg D m C o w)
include hT hi
omit hT in
theorem run_firstA {size n:Nat} {x:AV} {cs:List AV} (hx:okV D m x) (h:firstA C o size n x=some cs):(Builtin.firstCells size n (conc m x)).run P w=.ok (concL m cs).toArray w/\okL D m cs:=by
 cases x<;>simp only [firstA,reduceCtorEq,ok_some,Option.some.injEq] at h
 · rename_i s
   obtain ⟨hn,rfl⟩:=h
   refine ⟨?_,okL_iff.2 (fun v hm=>by obtain ⟨b,_,rfl⟩:=List.mem_map.1 hm;exact okV_none (by simp [byteA,idsA]))⟩
   simp only [conc,Builtin.firstCells,Sem.run_pure]
   congr 1
   apply Array.toList_inj.1
   simp [ByteArray.data_extract,concL_map,byteA,conc,Function.comp_def]
 · rename_i id off len c
   have hd:D id:=(hx (id,needC len c) (by simp [idsA])).1
   obtain ⟨hn,h⟩:=h
   simp only [readA,ob_some] at h
   obtain ⟨cs0,hc0,h⟩:=h
   obtain ⟨h1,h2⟩:=hi.range hd hc0 h P
   exact ⟨by simpa [conc,Builtin.firstCells] using h1,h2⟩
 · obtain ⟨hn,rfl⟩:=h
   exact ⟨by simp [conc,Builtin.firstCells,concL],okL_nil⟩
omit hT hi in
theorem run_lenA {x:AV} {n:Nat} (h:lenA x=some n):(Builtin.lenOf (conc m x)).run P w=.ok n w:=by
 cases x<;>simp only [lenA,reduceCtorEq,Option.some.injEq] at h<;>subst h<;>simp [conc,Builtin.lenOf]<;>rfl
omit hT hi in
theorem zeros_size (z:Array Value) (n:Nat):(Builtin.zeroCells z n).size=n*z.size:=by simp [Builtin.zeroCells]
omit hT hi in
theorem firstA_len {size n:Nat} {x:AV} {cs:List AV} (h:firstA C o size n x=some cs) (hs:∀s,x=.str s->size=1):cs.length=n*size:=by
 cases x<;>simp only [firstA,reduceCtorEq,ok_some,Option.some.injEq,ble_iff,beq_iff] at h
 · rename_i s
   obtain ⟨hn,rfl⟩:=h
   rw [hs s rfl]
   simp;omega
 · obtain ⟨hn,h⟩:=h
   simp only [readA,ob_some] at h
   obtain ⟨cs0,hc0,h⟩:=h
   exact takeA_len h
 · obtain ⟨rfl,rfl⟩:=h
   simp
omit hT hi in
theorem okV_grow {n c:Nat} {l:Loc} {k:Nat} (hk:k≤l.cap):okV (addD D n) (upd m n l) (.slice n 0 k (.rest 0)):=fun i hm=>by
 simp only [idsA,List.mem_singleton,needC] at hm
 subst hm
 exact ⟨ok_new,by simp only [upd_eq];omega⟩
theorem append_new {elem size n sl sc:Nat} {ts:Array TypeId} {ty:TypeId} {s x:AV} {old new:List AV} {z:AV} {t u:TypeId} {base:Option Addr} {inf:TypeInfo}
 (hts:ts[0]? = some t) (htu:ts[1]? = some u) (he:T.und t=some (.slice elem)) (hu:notIntT T u=true) (hinf:T.inf elem=some inf) (hby:inf.bytes≤100000) (hz:zeroA T elem=some z) (hsz:szOf T elem=some size) (hzl:(cellsA z).length=size) (h0:0<size)
 (hs:conc m s=.slice base sl sc) (hx:lenA x=some n) (hn:¬sl+n≤sc) (hlim:sl+n≤1000000)
 (hold:(Builtin.firstCells size sl (conc m s)).run P w.drew=.ok (concL m old).toArray w.drew) (hnew:(Builtin.firstCells size n (conc m x)).run P w.drew=.ok (concL m new).toArray w.drew)
 (hoo:okL D m old) (hon:okL D m new) (hol:old.length=sl*size) (hnl:new.length=n*size) :
 ∃D' m' w',(Builtin.append_ ts ty #[conc m s,conc m x]).run P w=.ok (conc m' (growA C o size (sl+n) (old++new)).1) w'/\okV D' m' (growA C o size (sl+n) (old++new)).1/\Ext cfg C D m o w D' m' (growA C o size (sl+n) (old++new)).2 w':=by
 have hcap:=grown_ge w (sl+n) sc elem (by omega)
 obtain ⟨d,hd,hdi⟩:∃d,T.und u=some d/\∀k,d≠.int k:=by
  unfold notIntT at hu
  split at hu
  · cases hu
  · rename_i d hne hd
    exact ⟨d,hd,fun k e=>hne k e⟩
  · cases hu
 obtain ⟨hz1,hz2⟩:=run_zero hT (m:=m) hz w.drew
 have hok:okL D m (old++new):=okL_append.2 ⟨hoo,hon⟩
 have hrest:(Builtin.zeroCells (concL m (cellsA z)).toArray (grownCap w (sl+n) sc elem-(sl+n))).size=(grownCap w (sl+n) sc elem-(sl+n))*size:=by
  rw [zeros_size];simp [concL_len,hzl]
 have hsize:((concL m old).toArray++(concL m new).toArray++Builtin.zeroCells (concL m (cellsA z)).toArray (grownCap w (sl+n) sc elem-(sl+n))).size=grownCap w (sl+n) sc elem*size:=by
  simp only [Array.size_append,hrest,List.size_toArray,concL_len,hol,hnl]
  rw [←Nat.add_mul,←Nat.add_mul]
  congr 1;omega
 have hext:=Ext.fresh1 hi (.cells (old++new) true (some size)) ⟨w.heap.size,0,grownCap w (sl+n) sc elem⟩ (.cells ((concL m old).toArray++(concL m new).toArray++Builtin.zeroCells (concL m (cellsA z)).toArray (grownCap w (sl+n) sc elem-(sl+n))) elem) (w0:=w.drew) rfl rfl rfl rfl rfl
  ⟨_,elem,(0,0),rfl,⟨(fun i v hv=>by
   rw [Nat.zero_add,Array.getElem?_append,if_pos (by
    have:=(List.getElem?_eq_some_iff.1 hv).1
    simpa [concL_len] using this)]
   have:((concL m old).toArray++(concL m new).toArray)=(concL m (old++new)).toArray:=by rw [concL_app];simp
   rw [this]
   simp [concL_get,hv]),hok,(fun _=>rfl),(fun s hs=>by cases hs;exact ⟨h0,rfl,hsize⟩)⟩⟩
 refine ⟨_,_,_,?_,okV_grow (c:=0) (by simpa using hcap),hext⟩
 have hnc:¬(Builtin.nextslicecap (sl+n) sc*inf.bytes > 2^48):=by
  have h1:=nextcap_le (need:=sl+n) (cap:=sc) (by omega) hlim
  have h2:Builtin.nextslicecap (sl+n) sc*inf.bytes≤20000000*100000:=Nat.mul_le_mul h1 hby
  omega
 have hmax:¬(((sl+n:Nat):Int) > IntKind.i64.max):=by
  simp only [IntKind.max,IntKind.bits,IntKind.signed,if_true];omega
 rw [hs] at hold ⊢
 have ha0:(#[Value.slice base sl sc,conc m x]:Array Value)[0]? = some (.slice base sl sc):=rfl
 have ha1:(#[Value.slice base sl sc,conc m x]:Array Value)[1]? = some (conc m x):=rfl
 have hq:(Question.appendCap (sl+n) sc elem).cut (w.tape w.drawn (.appendCap (sl+n) sc elem))=grownCap w (sl+n) sc elem:=rfl
 have hdr:({ w with drawn:=w.drawn+1 }:World)=w.drew:=rfl
 have hrd:=run_und hT hd w
 clear hd
 cases d
 case int k=>exact absurd rfl (hdi k)
 all_goals
  simp only [Builtin.append_,hts,htu,ha0,ha1,Sem.run_bind,run_und hT he w,Result.andThen_ok,run_sz hT hsz w,hrd,Sem.run_pure,Bool.false_eq_true,if_false,run_lenA hx,hn,run_inf hT hinf w,hmax,false_and,hnc,run_choose,Question.forced,hq,hdr,run_inf hT hinf w.drew,run_askRoom,hold,Bool.not_false,if_true,hnew,hz1,conc_cells,newRow,run_newObj]
  simp only [growA,conc,capC,Own.next,upd_eq,Nat.sub_zero,Nat.add_zero]
  rfl
theorem append_in {elem size n sl sc:Nat} {ts:Array TypeId} {ty:TypeId} {s x:AV} {new:List AV} {t u:TypeId} {base:Option Addr} {w':World}
 (hts:ts[0]? = some t) (htu:ts[1]? = some u) (he:T.und t=some (.slice elem)) (hu:notIntT T u=true) (hsz:szOf T elem=some size)
 (hs:conc m s=.slice base sl sc) (hx:lenA x=some n) (hn:sl+n≤sc)
 (hnew:(Builtin.firstCells size n (conc m x)).run P w=.ok (concL m new).toArray w)
 (hst:∀a,base=some a->(storeCells (a.add (sl*size)) (concL m new) 0).run P w=.ok () w') (hst':base=none->w'=w) :
 (Builtin.append_ ts ty #[conc m s,conc m x]).run P w=.ok (.slice base (sl+n) sc) w':=by
 obtain ⟨d,hd,hdi⟩:∃d,T.und u=some d/\∀k,d≠.int k:=by
  unfold notIntT at hu
  split at hu
  · cases hu
  · rename_i d hne hd
    exact ⟨d,hd,fun k e=>hne k e⟩
  · cases hu
 rw [hs]
 have ha0:(#[Value.slice base sl sc,conc m x]:Array Value)[0]? = some (.slice base sl sc):=rfl
 have ha1:(#[Value.slice base sl sc,conc m x]:Array Value)[1]? = some (conc m x):=rfl
 have hrd:=run_und hT hd w
 clear hd
 cases d
 case int k=>exact absurd rfl (hdi k)
 all_goals
  simp only [Builtin.append_,hts,htu,ha0,ha1,Sem.run_bind,run_und hT he w,Result.andThen_ok,run_sz hT hsz w,hrd,Sem.run_pure,Bool.false_eq_true,if_false,run_lenA hx,hn,if_true,Bool.not_false,hnew]
  cases base with
  | none=>simp only [Sem.run_pure];rw [hst' rfl]
  | some a=>simp only [Sem.run_bind,hst a rfl,Result.andThen_ok,Sem.run_pure]
omit hT hi in
theorem sliceA_lenA {s:AV} {sl:Nat} (h:lenA s=some sl) (hs:isSliceA s=true):s=.nilslice/\sl=0∨∃id off c,s=.slice id off sl c:=by
 cases s<;>simp [isSliceA] at hs
 · simp only [lenA,Option.some.injEq] at h;subst h;exact .inr ⟨_,_,_,rfl⟩
 · simp only [lenA,Option.some.injEq] at h;exact .inl ⟨rfl,h.symm⟩
theorem append_ok {ts:Array TypeId} {ty t u:TypeId} {s x:AV} {r:AV×Own} (hts:ts[0]? = some t) (htu:ts[1]? = some u) (hs:okV D m s) (hx:okV D m x) (h:appendA T C o t u s x=some r) :
 ∃D' m' w',(Builtin.append_ ts ty #[conc m s,conc m x]).run P w=.ok (conc m' r.1) w'/\okV D' m' r.1/\Ext cfg C D m o w D' m' r.2 w':=by
 simp only [appendA,ob_some,ok_some,Bool.and_eq_true] at h
 obtain ⟨elem,he,⟨⟨hni,hsm⟩,hsl⟩,size,hsz,z,hz,n,hn,sl,hl,h⟩:=h
 have heu:=und_elem he
 obtain ⟨inf,hinf,hby⟩:=small_some hT hsm
 have hslc:=sliceA_lenA hl hsl
 by_cases hn0:n=0
 · rw [beqT hn0,cond_true,ok_some,Option.some.injEq] at h
   obtain ⟨hfit,rfl⟩:=h
   subst hn0
   have hfc:(Builtin.firstCells size 0 (conc m x)).run P w=.ok (concL m []).toArray w:=by
    cases x<;>simp [lenA] at hn<;>simp [conc,Builtin.firstCells,concL,loadCells,loadCellsFrom]
   refine ⟨D,m,w,?_,hs,Ext.refl hi⟩
   rcases hslc with ⟨rfl,rfl⟩|⟨id,off,c,rfl⟩
   · have:=append_in (ty:=ty) (sc:=0) (w':=w) hT hi hts htu heu hni hsz (s:=.nilslice) (base:=none) (sl:=0) rfl hn (Nat.le_refl _) hfc (fun a e=>by cases e) (fun _=>rfl)
     simpa [conc] using this
   · have hroom:sl≤capC (m id) c:=by
      cases c with
      | known c=>exact ble_iff.1 hfit
      | rest k=>
        have:=(hs (id,sl+k) (by simp [idsA,needC])).2
        simp only [capC] at this ⊢;omega
     have:=append_in (ty:=ty) (w':=w) hT hi hts htu heu hni hsz (s:=.slice id off sl c) rfl hn hroom hfc (fun a e=>by simp [concL,storeCells]) (fun e=>by cases e)
     simpa [conc] using this
 · rw [beqF hn0,cond_false,ok_some] at h
   simp only [Bool.and_eq_true,lenOk,ble_iff,natLt_iff,beq_iff,ob_some,ok_some] at h
   obtain ⟨⟨⟨⟨⟨hlim,h0⟩,hs1⟩,hzl⟩,hstr⟩,new,hnew,hone,h⟩:=h
   obtain ⟨hfr,hfo⟩:=run_firstA (P:=P) hi hx hnew
   have hid:Inv cfg D m C o w.drew:=hi.world fun _ _ _=>rfl
   obtain ⟨hfr',_⟩:=run_firstA (P:=P) hid hx hnew
   have hnl:=firstA_len hnew (fun s e=>by subst e;exact beq_iff.1 hstr)
   rcases hslc with ⟨rfl,rfl⟩|⟨id,off,c,rfl⟩
   · simp only [appendTo,Option.some.injEq] at h
     subst h
     have:=append_new (ty:=ty) (old:=[]) (base:=none) (sc:=0) hT hi hts htu heu hni hinf hby hz hsz hzl h0 (s:=.nilslice) (sl:=0) rfl hn (by omega) (by omega) (by simp [conc,Builtin.firstCells,concL]) hfr' okL_nil hfo (by simp) hnl
     simpa using this
   · have hd:D id:=(hs (id,needC sl c) (by simp [idsA])).1
     have hneed:=(hs (id,needC sl c) (by simp [idsA])).2
     cases c with
     | known c=>
       simp only [appendTo,appendCap,appendKnown] at h
       by_cases hcap:sl+n≤c
       · rw [ble_iff.2 hcap,cond_true,ob_some] at h
         obtain ⟨o',hw,h⟩:=h
         simp only [Option.some.injEq] at h
         subst h
         obtain ⟨w',hw1,hw2⟩:=run_writeA (P:=P) hi hd hfo hone hw
         have:=append_in (ty:=ty) (w':=w') hT hi hts htu heu hni hsz (s:=.slice id off sl (.known c)) rfl hn (by simpa [capC] using hcap) hfr (fun a e=>by
          cases e
          rw [add_none,Nat.add_assoc];exact hw1) (fun e=>by cases e)
         refine ⟨D,m,w',?_,?_,hw2⟩
         · simpa [conc,capC] using this
         · intro i hm
           simp only [idsA,List.mem_singleton,needC] at hm
           subst hm;exact ⟨hd,Nat.zero_le _⟩
       · rw [bleF hcap,cond_false,ob_some] at h
         obtain ⟨old,hold,h⟩:=h
         simp only [Option.some.injEq] at h
         subst h
         have hof:firstA C o size sl (.slice id off sl (.known c))=some old:=by
          simp only [firstA,ok_some,ble_iff];exact ⟨Nat.le_refl _,hold⟩
         obtain ⟨hor,hoo⟩:=run_firstA (P:=P) hid hs hof
         exact append_new (ty:=ty) hT hi hts htu heu hni hinf hby hz hsz hzl h0 rfl hn (by simpa [capC] using hcap) hlim hor hfr' hoo hfo (firstA_len hof (fun s e=>by cases e)) hnl
     | rest k=>
       simp only [appendTo,appendCap,appendRest,ok_some,Bool.and_eq_true,beq_iff,ob_some] at h
       obtain ⟨⟨rfl,rfl⟩,y,hy,cs,hcs,h⟩:=h
       simp only [Option.some.injEq] at h
       subst h
       simp only [needC,Nat.add_zero] at hneed
       cases y<;>simp only [sameGrow,reduceCtorEq] at hcs
       rename_i cs' rw g
       cases rw<;>cases g<;>simp only [reduceCtorEq,ok_some,Bool.and_eq_true,beq_iff,Option.some.injEq] at hcs
       obtain ⟨⟨rfl,hcl⟩,rfl⟩:=hcs
       rename_i size
       have hob:=hi.obj id hd
       rw [own_get hy] at hob
       obtain ⟨c,e,fz,hb,hr⟩:=hob
       obtain rfl:=hr.free rfl
       obtain ⟨_,hbase,hcsz⟩:=hr.grow size rfl
       have hk:=Ext.put (w':=w) hi (x:=.dead) hd hy rfl (Nat.le_refl _) (fun _ _=>rfl) trivial rfl rfl rfl
       have hnx:(putO C o id .dead).next C=C.lo+o.n:=by simp [Own.next,put_n]
       by_cases hcap:sl+n≤(m id).cap
       · have hlen:sl*size+n*size≤(m id).cap*size:=by rw [←Nat.add_mul];exact Nat.mul_le_mul_right _ hcap
         have hst:=run_storeCells_at P (m id).blk (sl*size) e (concL m new) 0 c w hb (by rw [concL_len,hnl,hcsz];omega) (fun v hvm=>by
          rw [concL_map] at hvm
          obtain ⟨q,hq,rfl⟩:=List.mem_map.1 hvm
          exact oneA_conc (allOne_iff.1 hone q hq))
         have hap:=append_in (ty:=ty) hT hi hts htu heu hni hsz (s:=.slice id 0 sl (.rest 0)) rfl hn (by simpa [capC] using hcap) hfr (fun a e=>by
          cases e
          rw [add_none,hbase,Nat.add_zero,Nat.zero_add];exact hst) (fun e=>by cases e)
         have hg:Ext cfg C D m (putO C o id .dead) w (addD D (C.lo+(putO C o id .dead).n)) (upd m (C.lo+(putO C o id .dead).n) ⟨(m id).blk,0,(m id).cap⟩) ((putO C o id .dead).push (.cells (cs'++new) true (some size))) (w.setRow (m id).blk (c.toList.take (sl*size+0)++concL m new++c.toList.drop (sl*size+0+(concL m new).length)).toArray):=by
          refine Ext.again hk.inv hd (by rw [own_isSome put_le,hy];rfl) rfl (fun j hj hlj=>?_) (fun k hk=>setRow_other _ _ _ _ hk) (Nat.le_of_eq (setRow_size _ _ _).symm) ?_ rfl rfl rfl
          · rw [get_put hi.len (hi.lt id hd) (hi.lt j hj) (by rw [hy];rfl)] at hlj
            by_cases ej:j=id
            · rw [if_pos ej] at hlj;cases hlj
            · rw [if_neg ej] at hlj
              exact hi.inj j id hj hd ej hlj (by rw [own_get hy];rfl)
          · refine ⟨_,e,(0,0),setRow_heap w _ c _ e _ hb,⟨fun i v hv=>?_,okL_append.2 ⟨hr.okc,hfo⟩,fun _=>rfl,fun s hs=>?_⟩⟩
            · simp only [Nat.add_zero,Nat.zero_add,List.getElem?_toArray]
              rw [List.append_assoc,List.getElem?_append,List.length_take,Array.length_toList,Nat.min_eq_left (by omega)]
              rw [List.getElem?_append,hcl] at hv
              by_cases hi1:i<sl*size
              · rw [if_pos hi1] at hv ⊢
                have:=hr.at' i v hv
                rw [hbase,Nat.zero_add] at this
                rw [List.getElem?_take_of_lt hi1,Array.getElem?_toList];exact this
              · rw [if_neg hi1] at hv ⊢
                have:=(List.getElem?_eq_some_iff.1 hv).1
                rw [List.getElem?_append,if_pos (by rw [concL_len];exact this),concL_get,hv];rfl
            · cases hs
              refine ⟨h0,rfl,?_⟩
              simp only [Nat.add_zero,List.size_toArray,List.length_append,List.length_take,List.length_drop,Array.length_toList,concL_len,hnl]
              rw [hcsz];omega
         refine ⟨_,_,_,?_,okV_grow (c:=0) (n:=(putO C o id .dead).next C) (l:=⟨(m id).blk,0,(m id).cap⟩) (m:=m) (D:=D) hcap,hk.trans hg⟩
         rw [hap]
         simp only [growA,conc,capC,Own.next,upd_eq,Nat.sub_zero,Nat.add_zero,hbase]
       · have hof:firstA C o size sl (.slice id 0 sl (.rest 0))=some cs':=by
          simp only [firstA,ok_some,ble_iff]
          refine ⟨Nat.le_refl _,?_⟩
          simp only [readA,own_get hy,cellsOf,ob,takeA,List.drop_zero]
          rw [←hcl,List.take_length,beqT rfl];rfl
         obtain ⟨hor,hoo⟩:=run_firstA (P:=P) hid hs hof
         have hki:Inv cfg D m C (putO C o id .dead) w:=hk.inv
         obtain ⟨D',m',w',h1,h2,h3⟩:=append_new (ty:=ty) hT hki hts htu heu hni hinf hby hz hsz hzl h0 (s:=.slice id 0 sl (.rest 0)) rfl hn (by simpa [capC] using hcap) hlim hor hfr' hoo hfo (by omega) hnl
         exact ⟨D',m',w',h1,h2,hk.trans h3⟩
end
end Go.Ev
