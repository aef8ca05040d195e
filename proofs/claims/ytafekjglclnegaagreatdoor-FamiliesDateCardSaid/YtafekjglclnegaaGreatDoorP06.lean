import Derived.Laws.IdiomStrings
import Derived.Test.YtafekjglclnegaaGreatDoorP05
set_option linter.all false
namespace Go.Ev
open Go Go.RowKit
def OpOK (P:Program) (cfg:Cfg) (C:Ctx) (D:Nat->Prop) (m:Nat->Loc) (o:Own) (w:World) (s:Sem Next) (r:AV×Own):Prop:=
 ∃D' m' w' nx,s.run P w=.ok nx w'/\(nx=.value (conc m' r.1)∨nx=.skip/\r.1=undefA)/\okV D' m' r.1/\Ext cfg C D m o w D' m' r.2 w'
theorem OpOK.pure {P:Program} {cfg:Cfg} {C:Ctx} {D:Nat->Prop} {m:Nat->Loc} {o:Own} {w:World} {s:Sem Next} {r:AV×Own} (hi:Inv cfg D m C o w) (ho:r.2=o) (h:s.run P w=.ok (.value (conc m r.1)) w) (hv:okV D m r.1):OpOK P cfg C D m o w s r:=
 ⟨D,m,w,_,h,.inl rfl,hv,by rw [ho];exact Ext.refl hi⟩
def RhoOK (D:Nat->Prop) (m:Nat->Loc) (ρ:Operand->Option AV) (ev:Operand->Value):Prop:=∀x v,ρ x=some v->ev x=conc m v/\okV D m v
theorem mapAll_conc {D:Nat->Prop} {m:Nat->Loc} {ρ:Operand->Option AV} {ev:Operand->Value} (hρ:RhoOK D m ρ ev):∀{xs:List Operand} {vs:List AV},mapAll ρ xs=some vs->xs.map ev=concL m vs/\okL D m vs
 | [],vs,h=>by cases h;exact ⟨by simp [concL],okL_nil⟩
 | x::xs,vs,h=>by
   simp only [mapAll,ob_some,Option.some.injEq] at h
   obtain ⟨v,hv,vs',hvs,rfl⟩:=h
   obtain ⟨h1,h2⟩:=hρ x v hv
   obtain ⟨h3,h4⟩:=mapAll_conc hρ hvs
   exact ⟨by simp [concL,h1,h3],okL_cons.2 ⟨h2,h4⟩⟩
theorem mapAll_arr {D:Nat->Prop} {m:Nat->Loc} {ρ:Operand->Option AV} {ev:Operand->Value} (hρ:RhoOK D m ρ ev) {xs:Array Operand} {vs:List AV} (h:mapAll ρ xs.toList=some vs):xs.map ev=(concL m vs).toArray/\okL D m vs:=by
 obtain ⟨h1,h2⟩:=mapAll_conc hρ h
 refine ⟨?_,h2⟩
 apply Array.toList_inj.1
 simpa using h1
theorem partsA_conc {D:Nat->Prop} {m:Nat->Loc} {ρ:Operand->Option AV} {ev:Operand->Value} (hρ:RhoOK D m ρ ev):∀{xs:List (Nat×Operand)} {ps:List (Nat×AV)},partsA ρ xs=some ps->xs.map (fun p=>(p.1,ev p.2))=ps.map (fun p=>(p.1,conc m p.2))/\∀p∈ps,okV D m p.2
 | [],ps,h=>by cases h;simp
 | x::xs,ps,h=>by
   simp only [partsA,ob_some,Option.some.injEq] at h
   obtain ⟨v,hv,ps',hps,rfl⟩:=h
   obtain ⟨h1,h2⟩:=hρ _ v hv
   obtain ⟨h3,h4⟩:=partsA_conc hρ hps
   refine ⟨by simp [h1,h3],fun p hp=>?_⟩
   rcases List.mem_cons.1 hp with rfl|hp
   · exact h2
   · exact h4 p hp
theorem optA_conc {D:Nat->Prop} {m:Nat->Loc} {ρ:Operand->Option AV} {ev:Operand->Value} (hρ:RhoOK D m ρ ev) {x:Option Operand} {v:Option AV} (h:optA ρ x=some v):x.map ev=v.map (conc m):=by
 cases x with
 | none=>cases h;rfl
 | some x=>
   simp only [optA,ob_some,Option.some.injEq] at h
   obtain ⟨u,hu,rfl⟩:=h
   simp [(hρ x u hu).1]
theorem okL_zero {D:Nat->Prop} {m:Nat->Loc} {v:AV} (h:idsA v=[]):okL D m (cellsA v):=okV_cells (okV_none h)
section
variable {P:Program} {T:Tab} (hT:TabOK P T) {cfg:Cfg} {C:Ctx} {D:Nat->Prop} {m:Nat->Loc} {o:Own} {w:World} (hi:Inv cfg D m C o w) {ρ:Operand->Option AV} {ev:Operand->Value} (hρ:RhoOK D m ρ ev)
include hT hi hρ
theorem run_places:∀{fs:List Field} {pl:List (Nat×Nat)},placesA T fs=some pl->∀w,(fs.mapM (fun f=>(do pure (f.offset,←sizeOf f.type):Sem (Nat×Nat)))).run P w=.ok pl w
 | [],pl,h,w=>by cases h;simp
 | f::fs,pl,h,w=>by
   simp only [placesA,ob_some,Option.some.injEq] at h
   obtain ⟨n,hn,r,hr,rfl⟩:=h
   simp only [List.mapM_cons,Sem.run_bind,run_sz hT hn w,Result.andThen_ok,Sem.run_pure,run_places hr w]
theorem build_ok {t:TypeId} {parts:Array (Nat×Operand)} {v:AV} (h:buildA T ρ t parts.toList=some v):(Instr.build t (parts.map fun (i,x)=>(i,ev x))).run P w=.ok (conc m v) w/\okV D m v:=by
 simp only [buildA,ob_some] at h
 obtain ⟨z,hz,ps,hps,h⟩:=h
 obtain ⟨hzr,hz0⟩:=run_zero hT (m:=m) hz w
 obtain ⟨hp1,hp2⟩:=partsA_conc hρ hps
 have hparts:(parts.map fun (x:Nat×Operand)=>(x.1,ev x.2)).toList=ps.map fun p=>(p.1,conc m p.2):=by simpa using hp1
 cases hu:T.und t with
 | none=>simp [hu,buildD] at h
 | some d=>
   cases d<;>simp only [hu,buildD,reduceCtorEq,ob_some,Option.some.injEq] at h
   · rename_i n elem
     obtain ⟨sz,hsz,cs,hcs,rfl⟩:=h
     refine ⟨?_,okV_agg.2 (fillA_ok hcs (okL_zero hz0) hp2)⟩
     have hf:=run_fillA (m:=m) hcs
     simp only [Instr.build,Sem.run_bind,hzr,Result.andThen_ok,run_und hT hu w,run_sz hT hsz w,conc_cells,hparts,hf,Sem.run_pure,conc]
   · rename_i fields
     obtain ⟨pl,hpl,cs,hcs,rfl⟩:=h
     refine ⟨?_,okV_agg.2 (fillA_ok hcs (okL_zero hz0) hp2)⟩
     have hm:(fields.mapM (fun f=>(do pure (f.offset,←sizeOf f.type):Sem (Nat×Nat)))).run P w=.ok pl.toArray w:=by
      rw [Array.mapM_eq_mapM_toList,Sem.run_map,run_places hT hi hρ hpl w];rfl
     have hf:=run_fillA (m:=m) hcs
     have hp:(fun i:Nat=>pl.toArray[i]?)=fun i:Nat=>pl[i]? := by funext i;simp
     simp only [Instr.build,Sem.run_bind,hzr,Result.andThen_ok,run_und hT hu w,conc_cells,hparts,hm,hp,hf,Sem.run_pure,conc]
abbrev OpS (P:Program) (cfg:Cfg) (C:Ctx) (D:Nat->Prop) (m:Nat->Loc) (o:Own) (w:World) (ev:Operand->Value) (oo:Oper) (r:AV×Own):Prop:=OpOK P cfg C D m o w (execOp ev oo) r
omit hT in
theorem do_move {oo:Oper} {x:Operand} {r:AV×Own} (ho:oo.op=.move x∨oo.op=.assign x) (h:doMove x T C ρ o=some r):OpS P cfg C D m o w ev oo r:=by
 simp only [doMove,keep_some] at h
 obtain ⟨h1,h2⟩:=hρ x _ h.1
 exact OpOK.pure hi h.2 (by rcases ho with ho|ho<;>simp [execOp,ho,h1]) h2
omit hT in
theorem do_pick {oo:Oper} {c a b:Operand} {r:AV×Own} (ho:oo.op=.pick c a b) (h:doPick c a b T C ρ o=some r):OpS P cfg C D m o w ev oo r:=by
 simp only [doPick,keep_some,ob_some] at h
 obtain ⟨⟨cv,hc,h⟩,h2⟩:=h
 have h3:=(hρ c _ hc).1
 cases cv<;>simp only [pickV,reduceCtorEq] at h
 rename_i b'
 cases b'<;>simp only [pickV] at h
 · obtain ⟨h4,h5⟩:=hρ b _ h
   exact OpOK.pure hi h2 (by simp [execOp,ho,h3,h4,conc,asBool]) h5
 · obtain ⟨h4,h5⟩:=hρ a _ h
   exact OpOK.pure hi h2 (by simp [execOp,ho,h3,h4,conc,asBool]) h5
theorem do_build {oo:Oper} {t:TypeId} {parts:Array (Nat×Operand)} {r:AV×Own} (ho:oo.op=.build t parts) (h:doBuild t parts T C ρ o=some r):OpS P cfg C D m o w ev oo r:=by
 simp only [doBuild,keep_some] at h
 obtain ⟨h1,h2⟩:=build_ok hT hi hρ h.1
 exact OpOK.pure hi h.2 (by simp only [execOp,ho,Sem.run_bind,h1,Result.andThen_ok,Sem.run_pure]) h2
theorem do_load {oo:Oper} {t:TypeId} {a:Operand} {r:AV×Own} (ho:oo.op=.load t a) (h:doLoad t a T C ρ o=some r):OpS P cfg C D m o w ev oo r:=by
 simp only [doLoad,keep_some,ob_some] at h
 obtain ⟨⟨p,hp,h⟩,h2⟩:=h
 obtain ⟨h3,h4⟩:=hρ a _ hp
 obtain ⟨ad,h5,h6,h7⟩:=run_loadA hT hi h4 h
 exact OpOK.pure hi h2 (by simp only [execOp,ho,Sem.run_bind,h3,h5,Instr.loadAt,Instr.sureAddr,Sem.run_pure,Result.andThen_ok,h6]) h7
omit hT in
theorem do_nilCheck {oo:Oper} {x:Operand} {r:AV×Own} (ho:oo.op=.nilCheck x) (h:doNilCheck x T C ρ o=some r):OpS P cfg C D m o w ev oo r:=by
 simp only [doNilCheck,keep_some,ob_some] at h
 obtain ⟨⟨p,hp,h⟩,h2⟩:=h
 obtain ⟨h3,h4⟩:=hρ x _ hp
 cases p<;>simp only [nilCheckA,reduceCtorEq,Option.some.injEq] at h
 · rw [h] at h4 h3
   refine OpOK.pure hi h2 ?_ h4
   rw [←h] at h3 ⊢
   simp only [conc] at h3 ⊢
   simp only [execOp,ho,h3,Sem.run_pure]
 · rw [h] at h4 h3
   refine OpOK.pure hi h2 ?_ h4
   rw [←h] at h3 ⊢
   simp only [conc] at h3 ⊢
   simp only [execOp,ho,h3,Sem.run_pure]
theorem do_bin {oo:Oper} {op:BinOp} {t yt:TypeId} {x y:Operand} {r:AV×Own} (ho:oo.op=.binOp op t x y yt) (h:doBin op t x y T C ρ o=some r):OpS P cfg C D m o w ev oo r:=by
 simp only [doBin,keep_some,ob_some] at h
 obtain ⟨⟨a,ha,b,hb,h⟩,h2⟩:=h
 obtain ⟨h3,_⟩:=hρ x _ ha
 obtain ⟨h4,_⟩:=hρ y _ hb
 obtain ⟨h5,h6⟩:=run_binA hT (m:=m) h w
 exact OpOK.pure hi h2 (by simp only [execOp,ho,h3,h4];rw [Sem.run_bind,h5];rfl) (okV_none h6)
omit hT in
theorem do_un {oo:Oper} {op:UnOp} {t:TypeId} {x:Operand} {r:AV×Own} (ho:oo.op=.unOp op t x) (h:doUn op x T C ρ o=some r):OpS P cfg C D m o w ev oo r:=by
 simp only [doUn,keep_some,ob_some] at h
 obtain ⟨⟨a,ha,h⟩,h2⟩:=h
 obtain ⟨h3,_⟩:=hρ x _ ha
 obtain ⟨h5,h6⟩:=run_unA (P:=P) (m:=m) h w
 exact OpOK.pure hi h2 (by simp only [execOp,ho,h3,Sem.run_bind,h5,Result.andThen_ok,Sem.run_pure]) (okV_none h6)
theorem do_iface {oo:Oper} {t:TypeId} {x:Operand} {r:AV×Own} (ho:oo.op=.makeInterface t x) (h:doIface t x T C ρ o=some r):OpS P cfg C D m o w ev oo r:=by
 simp only [doIface,keep_some,ob_some,makeIfaceA] at h
 obtain ⟨⟨v,hv,h⟩,h2⟩:=h
 obtain ⟨h3,h4⟩:=hρ x _ hv
 split at h<;>simp only [reduceCtorEq,Option.some.injEq] at h
 rename_i d hne hu
 refine OpOK.pure hi h2 ?_ (by rw [←h];exact h4)
 rw [←h]
 simp only [execOp,ho,h3,Instr.makeInterface,Sem.run_bind,run_und hT hu w,Result.andThen_ok,conc]
 cases d<;>first|rfl|exact absurd rfl (hne _)
omit hT in
theorem do_func {oo:Oper} {fn:Fn} {first captured:Array Operand} {r:AV×Own} (ho:oo.op=.makeFunc fn first captured) (h:doFunc fn first captured T C ρ o=some r):OpS P cfg C D m o w ev oo r:=by
 simp only [doFunc,keep_some] at h
 obtain ⟨h,h2⟩:=h
 cases fn<;>simp only [makeFuncA,reduceCtorEq,ob_some,Option.some.injEq] at h
 obtain ⟨a,ha,b,hb,h⟩:=h
 obtain ⟨h3,h4⟩:=mapAll_arr hρ ha
 obtain ⟨h5,h6⟩:=mapAll_arr hρ hb
 refine OpOK.pure hi h2 ?_ ?_
 · rw [←h];simp [execOp,ho,Instr.makeFunc,h3,h5,conc]
 · rw [←h]
   intro i hm
   simp only [idsA,List.mem_append] at hm
   rcases hm with hm|hm
   · exact h4 i hm
   · exact h6 i hm
theorem do_slice {oo:Oper} {t:TypeId} {x:Operand} {lo hi' mx:Option Operand} {r:AV×Own} (ho:oo.op=.slice t x lo hi' mx) (h:doSlice t x lo hi' mx T C ρ o=some r):OpS P cfg C D m o w ev oo r:=by
 simp only [doSlice,keep_some,ob_some] at h
 obtain ⟨⟨v,hv,l,hl,hh,hhh,mm,hmm,h⟩,h2⟩:=h
 obtain ⟨h3,h4⟩:=hρ x _ hv
 obtain ⟨h5,h6⟩:=run_sliceOf hT h4 h w
 exact OpOK.pure hi h2 (by simp only [execOp,ho,h3,optA_conc hρ hl,optA_conc hρ hhh,optA_conc hρ hmm,Sem.run_bind,h5,Result.andThen_ok,Sem.run_pure]) h6
theorem do_fieldAddr {oo:Oper} {s:TypeId} {x:Operand} {f:Nat} {r:AV×Own} (ho:oo.op=.fieldAddr s x f) (h:doFieldAddr s x f T C ρ o=some r):OpS P cfg C D m o w ev oo r:=by
 simp only [doFieldAddr,keep_some,ob_some] at h
 obtain ⟨⟨v,hv,h⟩,h2⟩:=h
 obtain ⟨h3,h4⟩:=hρ x _ hv
 obtain ⟨h5,h6⟩:=run_fieldAddr hT h4 h w
 exact OpOK.pure hi h2 (by simp only [execOp,ho,h3,Sem.run_bind,h5,Result.andThen_ok,Sem.run_pure]) h6
theorem do_field {oo:Oper} {s:TypeId} {x:Operand} {f:Nat} {r:AV×Own} (ho:oo.op=.field s x f) (h:doField s x f T C ρ o=some r):OpS P cfg C D m o w ev oo r:=by
 simp only [doField,keep_some,ob_some] at h
 obtain ⟨⟨v,hv,h⟩,h2⟩:=h
 obtain ⟨h3,h4⟩:=hρ x _ hv
 obtain ⟨h5,h6⟩:=run_field hT h4 h w
 exact OpOK.pure hi h2 (by simp only [execOp,ho,h3,Sem.run_bind,h5,Result.andThen_ok,Sem.run_pure]) h6
omit hT hi hρ in
theorem idxA_some {v:AV} {n:Nat} (h:idxA v=some n):∃k,v=.int k (.ofNat n):=by
 unfold idxA at h
 split at h
 · cases h;exact ⟨_,rfl⟩
 · cases h
theorem do_indexAddr {oo:Oper} {t:TypeId} {x ix:Operand} {r:AV×Own} (ho:oo.op=.indexAddr t x ix) (h:doIndexAddr t x ix T C ρ o=some r):OpS P cfg C D m o w ev oo r:=by
 simp only [doIndexAddr,keep_some,ob_some] at h
 obtain ⟨⟨v,hv,i,hix,n,hn,h⟩,h2⟩:=h
 obtain ⟨k,rfl⟩:=idxA_some hn
 obtain ⟨h3,h4⟩:=hρ x _ hv
 obtain ⟨h7,_⟩:=hρ ix _ hix
 obtain ⟨h5,h6⟩:=run_indexAddr hT (k:=k) h4 h w
 exact OpOK.pure hi h2 (by simp only [execOp,ho,h3,h7,conc,Int.ofNat_eq_natCast,Sem.run_bind,h5,Result.andThen_ok,Sem.run_pure]) h6
theorem do_index {oo:Oper} {t:TypeId} {x ix:Operand} {r:AV×Own} (ho:oo.op=.index t x ix) (h:doIndex t x ix T C ρ o=some r):OpS P cfg C D m o w ev oo r:=by
 simp only [doIndex,keep_some,ob_some] at h
 obtain ⟨⟨v,hv,i,hix,n,hn,h⟩,h2⟩:=h
 obtain ⟨k,rfl⟩:=idxA_some hn
 obtain ⟨h3,h4⟩:=hρ x _ hv
 obtain ⟨h7,_⟩:=hρ ix _ hix
 obtain ⟨h5,h6⟩:=run_index hT (k:=k) h4 h w
 exact OpOK.pure hi h2 (by simp only [execOp,ho,h3,h7,conc,Int.ofNat_eq_natCast,Sem.run_bind,h5,Result.andThen_ok,Sem.run_pure]) h6
omit hT in
theorem do_extract {oo:Oper} {t:Operand} {i:Nat} {r:AV×Own} (ho:oo.op=.extract t i) (h:doExtract t i T C ρ o=some r):OpS P cfg C D m o w ev oo r:=by
 simp only [doExtract,keep_some,ob_some] at h
 obtain ⟨⟨v,hv,h⟩,h2⟩:=h
 obtain ⟨h3,h4⟩:=hρ t _ hv
 cases v<;>simp only [extractA,reduceCtorEq] at h
 rename_i vs
 refine OpOK.pure hi h2 ?_ (okL_iff.1 (okV_tuple.1 h4) _ (List.mem_of_getElem? h))
 simp [execOp,ho,h3,conc,Instr.extract,concL_get,h]
end
theorem alloc_heap_new (w:World) (x:Obj):(w.alloc x).heap[w.heap.size]? = some x:=by
 show (w.heap.push x)[w.heap.size]? = _
 simp
theorem Ext.fresh1 {cfg:Cfg} {C:Ctx} {D:Nat->Prop} {m:Nat->Loc} {o:Own} {w w0:World} (hi:Inv cfg D m C o w) (x:AObj) (l:Loc) (b:Obj) (hw:w0.heap=w.heap) (hos:w0.os=w.os) (ht:w0.tape=w.tape) (hu:w0.output=w.output) (hl:l.blk=w.heap.size) (hx:ObjRel D m l x (some b)) :
 Ext cfg C D m o w (addD D (C.lo+o.n)) (upd m (C.lo+o.n) l) (o.push x) (w0.alloc b):=by
 refine Ext.alloc hi (by simp [hw]) (fun k hk=>?_) (by omega) ?_ hos ht hu
 · rw [Below.heap_alloc w0 b k (by rw [hw];exact hk),hw]
 · rw [hl,←hw,alloc_heap_new];exact hx
theorem ok_new {D:Nat->Prop} {n:Nat}:addD D n n:=.inr rfl
theorem cells_new {D:Nat->Prop} {m:Nat->Loc} {l:Loc} {cs:List AV} {rw:Bool} {e:TypeId} (hb:l.base=0) (ho:okL D m cs):ObjRel D m l (.cells cs rw none) (some (.cells (concL m cs).toArray e)):=
 ⟨_,e,(0,0),rfl,⟨fun i v hv=>by rw [hb,Nat.zero_add];simp [concL_get,hv],ho,fun _=>rfl,fun s hs=>by cases hs⟩⟩
theorem ok_ptr_new {D:Nat->Prop} {m:Nat->Loc} {n off:Nat} {l:Loc}:okV (addD D n) (upd m n l) (.ptr n off):=fun i hi=>by
 simp only [idsA,List.mem_singleton] at hi;subst hi;exact ⟨ok_new,Nat.zero_le _⟩
theorem repA_len (z:List AV):∀k,(repA z k).length=k*z.length
 | 0=>by simp [repA]
 | k+1=>by rw [repA,List.length_append,repA_len z k,Nat.succ_mul,Nat.add_comm]
theorem repA_get (z:List AV) (hz:0<z.length):∀k i,i<k*z.length->(repA z k)[i]? = z[i%z.length]?
 | 0,i,h=>by simp at h
 | k+1,i,h=>by
   rw [repA,List.getElem?_append]
   by_cases hi:i<z.length
   · rw [if_pos hi,Nat.mod_eq_of_lt hi]
   · rw [if_neg hi,repA_get z hz k (i-z.length) (by rw [Nat.succ_mul] at h;omega),←Nat.mod_eq_sub_mod (by omega)]
theorem rep_conc {m:Nat->Loc} (z:List AV) (hz:0<z.length) (k n:Nat) (hn:n=k*z.length) :
 (Array.range n).map (fun i=>(concL m z).toArray[i%(concL m z).toArray.size]!)=(concL m (repA z k)).toArray:=by
 subst hn
 apply Array.ext
 · simp [concL_len,repA_len]
 · intro i h1 h2
   have hi:i<k*z.length:=by simpa using h1
   have hm:i%z.length<z.length:=Nat.mod_lt _ hz
   have h3:(concL m (repA z k))[i]? = (concL m z)[i%z.length]? := by rw [concL_get,concL_get,repA_get z hz k i hi]
   simp only [Array.getElem_map,Array.getElem_range,List.size_toArray,concL_len,List.getElem_toArray]
   have h4:i%z.length<(concL m z).length:=by rw [concL_len];exact hm
   have h5:i<(concL m (repA z k)).length:=by rw [concL_len,repA_len];exact hi
   rw [List.getElem?_eq_getElem h5,List.getElem?_eq_getElem h4,Option.some.injEq] at h3
   rw [h3]
   simp [h4]
theorem repA_ok {D:Nat->Prop} {m:Nat->Loc} {z:List AV} (hz:okL D m z):∀k,okL D m (repA z k)
 | 0=>okL_nil
 | k+1=>okL_append.2 ⟨hz,repA_ok hz k⟩
section
variable {P:Program} {T:Tab} (hT:TabOK P T) {cfg:Cfg} {C:Ctx} {D:Nat->Prop} {m:Nat->Loc} {o:Own} {w:World} (hi:Inv cfg D m C o w) {ρ:Operand->Option AV} {ev:Operand->Value} (hρ:RhoOK D m ρ ev)
include hT hi hρ
omit hT hρ in
theorem alloc_ok {s:Sem Next} {v:AV} {r:AV×Own} {e:TypeId} (hv:okV D m v) (hs:s.run P w=.ok (.value (.pointer (some ⟨w.heap.size,0,none⟩))) (w.alloc (.cells (conc m v).cells e))) (h:allocV C o v=some r):OpOK P cfg C D m o w s r:=by
 simp only [allocV,ok_some,Option.some.injEq] at h
 obtain ⟨_,rfl⟩:=h
 have he:=Ext.fresh1 hi (.cells (cellsA v) true none) ⟨w.heap.size,0,0⟩ (.cells (conc m v).cells e) rfl rfl rfl rfl rfl (by rw [conc_cells];exact cells_new rfl (okV_cells hv))
 refine ⟨_,_,_,_,hs,.inl ?_,ok_ptr_new,he⟩
 simp [conc,Own.next,upd_eq]
theorem do_alloc {oo:Oper} {t:TypeId} {r:AV×Own} (ho:oo.op=.alloc t) (h:doAlloc t T C ρ o=some r):OpS P cfg C D m o w ev oo r:=by
 simp only [doAlloc,ob_some] at h
 obtain ⟨z,hz,h⟩:=h
 obtain ⟨h1,h2⟩:=run_zero hT (m:=m) hz w
 refine alloc_ok (e:=t) hi (okV_none h2) ?_ h
 simp [execOp,ho,Instr.alloc,h1,newVar,newRow]
omit hT in
theorem do_box {oo:Oper} {t:TypeId} {x:Operand} {r:AV×Own} (ho:oo.op=.box t x) (h:doBox x T C ρ o=some r):OpS P cfg C D m o w ev oo r:=by
 simp only [doBox,ob_some] at h
 obtain ⟨v,hv,h⟩:=h
 obtain ⟨h3,h4⟩:=hρ x _ hv
 refine alloc_ok (e:=t) hi h4 ?_ h
 simp [execOp,ho,Instr.box,h3,newVar,newRow]
theorem do_buildSlice {oo:Oper} {t:TypeId} {len:Nat} {parts:Array (Nat×Operand)} {r:AV×Own} (ho:oo.op=.buildSlice t len parts) (h:doBuildSlice t len parts T C ρ o=some r):OpS P cfg C D m o w ev oo r:=by
 simp only [doBuildSlice,buildSliceA,ob_some,ok_some,Bool.and_eq_true,ble_iff,beq_iff,natLt_iff,Option.some.injEq] at h
 obtain ⟨elem,he,n,hn,z,hz,ps,hps,⟨⟨hb,hl⟩,h0⟩,cs,hcs,_,rfl⟩:=h
 obtain ⟨hp1,hp2⟩:=partsA_conc hρ hps
 obtain ⟨hz1,hz2⟩:=run_zero hT (m:=m) hz w
 have hparts:(parts.map fun (x:Nat×Operand)=>(x.1,ev x.2)).toList=ps.map fun p=>(p.1,conc m p.2):=by simpa using hp1
 have hf:=run_fillA (m:=m) hcs
 have hok:=fillA_ok (D:=D) (m:=m) hcs (repA_ok (okL_zero hz2) len) hp2
 have he':=Ext.fresh1 hi (.cells cs true none) ⟨w.heap.size,0,0⟩ (.cells (concL m cs).toArray elem) rfl rfl rfl rfl rfl (cells_new rfl hok)
 refine ⟨_,_,_,.value (.slice (some ⟨w.heap.size,0,none⟩) len len),?_,.inl ?_,?_,he'⟩
 · have h1:¬(len*n > 2^24):=by omega
   by_cases hlz:len*n=0
   · have hln:len=0:=by rcases Nat.mul_eq_zero.1 hlz with h|h<;>omega
     subst hln
     simp only [repA,concL] at hf
     simp only [execOp,ho,Instr.buildSlice,Sem.run_bind,run_und hT (und_elem he) w,Result.andThen_ok,run_sz hT hn w,hparts]
     have e0:∀f:Nat->Value,(Array.range 0).map f=#[]:=fun f=>by apply Array.toList_inj.1;simp
     simp only [Nat.zero_mul,if_true,gt_iff_lt,Nat.not_lt_zero,if_false,Sem.run_pure,Result.andThen_ok,e0,hf]
     simp [newRow]
   · have hrep:=rep_conc (m:=m) (cellsA z) (by omega) len (len*n) (by rw [hl])
     simp only [execOp,ho,Instr.buildSlice,Sem.run_bind,run_und hT (und_elem he) w,Result.andThen_ok,run_sz hT hn w,if_neg h1,hparts,Sem.run_pure,if_neg hlz,hz1,conc_cells,hrep,hf]
     simp [newRow]
 · simp [conc,capC,Own.next,upd_eq]
 · intro i hm
   simp only [idsA,List.mem_singleton,needC] at hm
   subst hm
   exact ⟨ok_new,Nat.zero_le _⟩
omit hT in
theorem do_makeMap {oo:Oper} {t:TypeId} {x:Option Operand} {r:AV×Own} (ho:oo.op=.makeMap t x) (h:doMakeMap x T C ρ o=some r):OpS P cfg C D m o w ev oo r:=by
 simp only [doMakeMap,ok_some,Option.some.injEq,Option.isNone_iff_eq_none] at h
 obtain ⟨rfl,rfl⟩:=h
 have he':=Ext.fresh1 hi (.map []) ⟨w.heap.size,0,0⟩ (.map #[] 0) rfl rfl rfl rfl rfl ⟨#[],0,rfl,rfl,fun e hm=>by cases hm⟩
 refine ⟨_,_,_,.value (.map (some w.heap.size)),?_,.inl ?_,?_,he'⟩
 · simp [execOp,ho,Instr.makeMap]
 · simp [conc,Own.next,upd_eq]
 · intro i hm
   simp only [idsA,List.mem_singleton] at hm
   subst hm
   exact ⟨ok_new,Nat.zero_le _⟩
theorem do_store {oo:Oper} {t:TypeId} {a x:Operand} {r:AV×Own} (ho:oo.op=.store t a x) (h:doStore t a x T C ρ o=some r):OpS P cfg C D m o w ev oo r:=by
 simp only [doStore,ob_some,Option.some.injEq] at h
 obtain ⟨p,hp,v,hv,o',hs,rfl⟩:=h
 obtain ⟨h1,h2⟩:=hρ a _ hp
 obtain ⟨h3,h4⟩:=hρ x _ hv
 obtain ⟨w',hr,he⟩:=run_storeA hT hi h2 h4 hs
 exact ⟨D,m,w',.skip,by simp only [execOp,ho,h1,h3,Sem.run_bind,hr,Result.andThen_ok,Sem.run_pure],.inr ⟨rfl,rfl⟩,okV_undef,he⟩
end
theorem byteOf_some {v:AV} {b:UInt8} (h:byteOf v=some b):v=.int .u8 (.ofNat b.toNat):=by
 unfold byteOf at h
 split at h
 · simp only [ok_some,natLt_iff,Option.some.injEq] at h
   obtain ⟨h1,rfl⟩:=h
   rw [UInt8.toNat_ofNat_of_lt' h1]
 · cases h
theorem bytesOfA_some:∀{vs:List AV} {s:List UInt8},bytesOfA vs=some s->vs=s.map byteA
 | [],s,h=>by cases h;rfl
 | v::vs,s,h=>by
   simp only [bytesOfA,ob_some,Option.some.injEq] at h
   obtain ⟨b,hb,s',hs,rfl⟩:=h
   rw [byteOf_some hb,bytesOfA_some hs]
   rfl
theorem grown_ge (w:World) (need old:Nat) (e:TypeId) (h:need<2^63):need≤grownCap w need old e:=by
 unfold grownCap Question.cut
 simp
section
variable {P:Program} {T:Tab} (hT:TabOK P T) {cfg:Cfg} {C:Ctx} {D:Nat->Prop} {m:Nat->Loc} {o:Own} {w:World} (hi:Inv cfg D m C o w) {ρ:Operand->Option AV} {ev:Operand->Value} (hρ:RhoOK D m ρ ev)
include hT hi hρ
omit hi hρ in
theorem byteD_some {e:TypeId} (h:isByteD (T.und e)=true):T.und e=some (.int .u8):=by
 cases hu:T.und e with
 | none=>simp [hu,isByteD] at h
 | some d=>
   cases d<;>simp [hu,isByteD] at h
   rename_i k
   cases k<;>simp at h
   rfl
omit hi hρ in
theorem strD_some {t:TypeId} (h:strD (T.und t)=true):T.und t=some .string:=und_str h
theorem do_convert {oo:Oper} {src dst:TypeId} {x:Operand} {r:AV×Own} (ho:oo.op=.convert src dst x) (h:doConvert src dst x T C ρ o=some r):OpS P cfg C D m o w ev oo r:=by
 simp only [doConvert,ob_some] at h
 obtain ⟨v,hv,h⟩:=h
 obtain ⟨h1,h2⟩:=hρ x _ hv
 cases v<;>simp only [convertA,reduceCtorEq,ok_some,keep_some] at h
 case int k n=>
  obtain ⟨hs,h,h3⟩:=h
  obtain ⟨d,hd⟩:=Option.isSome_iff_exists.1 hs
  cases hu:T.und dst with
  | none=>simp [hu,convInt] at h
  | some d'=>
    cases d'<;>simp only [hu,convInt,reduceCtorEq,mkInt_eq,Option.some.injEq] at h
    · refine OpOK.pure hi h3 ?_ (okV_none (by rw [←h];simp [idsA]))
      rw [←h]
      simp only [execOp,ho,h1,convert,Sem.run_bind,run_und hT hd w,run_und hT hu w,Result.andThen_ok,conc,Conv.intToInt,Sem.run_pure]
    · refine OpOK.pure hi h3 ?_ (okV_none (by rw [←h];simp [idsA]))
      rw [←h]
      simp only [execOp,ho,h1,convert,Sem.run_bind,run_und hT hd w,run_und hT hu w,Result.andThen_ok,conc,Conv.intToString,Sem.run_pure]
 case str s=>
  obtain ⟨hs,h⟩:=h
  have hsu:=strD_some hT hs
  cases hu:T.und dst with
  | none=>simp [hu,convStr] at h
  | some d'=>
    cases d'<;>simp only [hu,convStr,reduceCtorEq,Option.some.injEq,ok_some,Bool.and_eq_true,ble_iff] at h
    · subst h
      refine OpOK.pure hi rfl ?_ h2
      simp only [execOp,ho,h1,convert,Sem.run_bind,run_und hT hsu w,run_und hT hu w,Result.andThen_ok,conc,Sem.run_pure]
    · rename_i e
      obtain ⟨⟨hb,hl⟩,rfl⟩:=h
      have hbu:=byteD_some hT hb
      have hr:=run_bytes_of_string (P:=P) w src dst e ⟨⟨s⟩⟩ (und_some hT hsu) (und_some hT hu) (und_some hT hbu)
      have hge:=grown_ge w s.length 0 e (by omega)
      have hat:∀(i:Nat) (v:AV),(s.map byteA)[i]? = some v->(bytesRow ⟨⟨s⟩⟩ (grownCap w (ByteArray.mk ⟨s⟩).size 0 e))[0+i]? = some (conc m v):=by
       intro i v hiv
       rw [List.getElem?_map] at hiv
       obtain ⟨b,hb',rfl⟩:=Option.map_eq_some_iff.1 hiv
       obtain ⟨hlt,hbe⟩:=List.getElem?_eq_some_iff.1 hb'
       rw [Nat.zero_add,bytesRow_at _ _ i (by simpa using hlt)]
       simp [conc,byteA,hbe]
      have hokb:okL D m (s.map byteA):=by
       rw [okL_iff]
       intro v hm
       obtain ⟨b,_,rfl⟩:=List.mem_map.1 hm
       exact okV_none (by simp [byteA,idsA])
      have he:=Ext.fresh1 hi (.cells (s.map byteA) false none) ⟨w.heap.size,0,grownCap w s.length 0 e⟩ (.cells (bytesRow ⟨⟨s⟩⟩ (grownCap w (ByteArray.mk ⟨s⟩).size 0 e)) e ((bytesRow ⟨⟨s⟩⟩ (grownCap w (ByteArray.mk ⟨s⟩).size 0 e)).size,(bytesRow ⟨⟨s⟩⟩ (grownCap w (ByteArray.mk ⟨s⟩).size 0 e)).size+1)) (w0:=w.drew) rfl rfl rfl rfl rfl
       ⟨_,_,_,rfl,⟨hat,hokb,(fun h=>by cases h),(fun s h=>by cases h)⟩⟩
      refine ⟨_,_,_,.value (.slice (some ⟨w.heap.size,0,none⟩) (ByteArray.mk ⟨s⟩).size (grownCap w (ByteArray.mk ⟨s⟩).size 0 e)),?_,.inl ?_,?_,he⟩
      · simp only [execOp,ho,h1,conc,Sem.run_bind,hr,Result.andThen_ok,Sem.run_pure]
      · simp only [conc,capC,Own.next,upd_eq,Nat.sub_zero,Nat.add_zero];rfl
      · intro i hm
        simp only [idsA,List.mem_singleton,needC] at hm
        subst hm
        refine ⟨ok_new,?_⟩
        simp only [Own.next,upd_eq,Nat.add_zero]
        exact hge
 case slice id off len c=>
  obtain ⟨h,h3⟩:=h
  have hd:D id:=(h2 (id,needC len c) (by simp [idsA])).1
  simp only [convSlice,ob_some,ok_some,Bool.and_eq_true,Option.some.injEq,readA] at h
  obtain ⟨e,he,⟨hb,hst⟩,cs,⟨cs0,hc0,hcs⟩,s,hs,h⟩:=h
  have hbu:=byteD_some hT hb
  have hsu:=strD_some hT hst
  have hel:=und_elem he
  have hcse:=bytesOfA_some hs
  subst hcse
  have hlen:s.length=len:=by
   have:=takeA_len hcs
   simpa using this
  refine OpOK.pure hi h3 ?_ (okV_none (by rw [←h];simp [idsA]))
  rw [←h]
  have hr:=run_convert_bytes_back (P:=P) w src dst e ⟨(m id).blk,(m id).base+off,none⟩ (capC (m id) c) s (und_some hT hel) (und_some hT hbu) (und_some hT hsu) (fun j hj=>by
   rw [add_none,Nat.add_assoc]
   have hg:=takeA_get hcs (i:=j) (by omega)
   rw [List.getElem?_map,List.getElem?_eq_getElem hj] at hg
   have:=(hi.cell hd hc0 hg).1
   simpa [conc,byteA] using this)
  rw [hlen] at hr
  simp only [execOp,ho,h1,conc,Sem.run_bind,hr,Result.andThen_ok,Sem.run_pure]
end
end Go.Ev
