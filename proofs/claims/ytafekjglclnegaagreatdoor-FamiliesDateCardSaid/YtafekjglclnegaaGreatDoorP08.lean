import Derived.RangeFuncIn
import Derived.RangeFuncSeq
import Derived.Test.YtafekjglclnegaaGreatDoorP07
set_option linter.all false
namespace Go.Ev
open Go Go.RowKit
section
variable {P:Program} {T:Tab} (hT:TabOK P T) {cfg:Cfg} {C:Ctx} {D:Nat->Prop} {m:Nat->Loc} {o:Own} {w:World} (hi:Inv cfg D m C o w)
include hT hi
theorem copy_ok {ts:Array TypeId} {ty t:TypeId} {d s:AV} {r:AV×Own} (hts:ts[0]? = some t) (hd:okV D m d) (hs:okV D m s) (h:copyA T C o t d s=some r) :
 ∃D' m' w',(Builtin.copy_ ts ty #[conc m d,conc m s]).run P w=.ok (conc m' r.1) w'/\okV D' m' r.1/\Ext cfg C D m o w D' m' r.2 w':=by
 simp only [copyA,ob_some,ok_some] at h
 obtain ⟨elem,he,hsl,size,hsz,dl,hdl,sl,hsl',cs,hcs,h⟩:=h
 obtain ⟨hfr,hfo⟩:=run_firstA (P:=P) hi hs hcs
 have hmin:minN sl dl=Nat.min sl dl:=by
  unfold minN
  by_cases hle:sl≤dl
  · rw [ble_iff.2 hle,cond_true];exact (Nat.min_eq_left hle).symm
  · rw [bleF hle,cond_false];exact (Nat.min_eq_right (by omega)).symm
 have ha1:∀x y:Value,(#[x,y]:Array Value)[1]? = some y:=fun _ _=>rfl
 have ha0:∀x y:Value,(#[x,y]:Array Value)[0]? = some x:=fun _ _=>rfl
 rcases sliceA_lenA hdl hsl with ⟨rfl,rfl⟩|⟨id,off,c,rfl⟩
 · simp only [copyTo,Option.some.injEq] at h
   subst h
   refine ⟨D,m,w,?_,by rw [goInt_eq];exact okV_int,Ext.refl hi⟩
   rw [hmin] at hfr ⊢
   simp only [Builtin.copy_,hts,ha0,ha1,Sem.run_bind,run_und hT (und_elem he) w,Result.andThen_ok,conc,run_lenA hsl',run_sz hT hsz w,hfr,Sem.run_pure,goInt_eq,Go.goInt]
 · have hdd:D id:=(hd (id,needC dl c) (by simp [idsA])).1
   simp only [copyTo,ok_some,ob_some,Option.some.injEq] at h
   obtain ⟨hone,o',hw,rfl⟩:=h
   obtain ⟨w',hw1,hw2⟩:=run_writeA (P:=P) hi hdd hfo hone hw
   refine ⟨D,m,w',?_,by rw [goInt_eq];exact okV_int,hw2⟩
   rw [hmin] at hfr ⊢
   simp only [Builtin.copy_,hts,ha0,ha1,Sem.run_bind,run_und hT (und_elem he) w,Result.andThen_ok,conc,run_lenA hsl',run_sz hT hsz w,hfr,hw1,Sem.run_pure,goInt_eq,Go.goInt]
omit hi in
theorem len_ok {ts:Array TypeId} {ty t:TypeId} {x v:AV} (hts:ts[0]? = some t) (h:lenD x (T.und t)=some v):(Builtin.len_ ts ty #[conc m x]).run P w=.ok (conc m v) w/\idsA v=[]:=by
 have ha0:∀x:Value,(#[x]:Array Value)[0]? = some x:=fun _=>rfl
 cases hu:T.und t with
 | none=>simp [hu,lenD] at h
 | some d=>
   cases d<;>simp only [hu,lenD,reduceCtorEq] at h
   · cases x<;>simp only [reduceCtorEq,Option.some.injEq] at h
     subst h
     rw [goInt_eq]
     refine ⟨?_,by simp [idsA]⟩
     simp only [Builtin.len_,hts,ha0,Sem.run_bind,run_und hT hu w,Result.andThen_ok,conc,Sem.run_pure,Go.goInt];rfl
   · cases x<;>simp only [reduceCtorEq,Option.some.injEq] at h<;>subst h<;>rw [goInt_eq]<;>refine ⟨?_,by simp [idsA]⟩<;>
      simp only [Builtin.len_,hts,ha0,Sem.run_bind,run_und hT hu w,Result.andThen_ok,conc,Sem.run_pure,Go.goInt]<;>rfl
   · simp only [Option.some.injEq] at h
     subst h
     rw [goInt_eq]
     refine ⟨?_,by simp [idsA]⟩
     simp only [Builtin.len_,hts,ha0,Sem.run_bind,run_und hT hu w,Result.andThen_ok,conc,Sem.run_pure,Go.goInt]
omit hi in
theorem cap_ok {ts:Array TypeId} {ty t:TypeId} {x v:AV} (hts:ts[0]? = some t) (h:capD x (T.und t)=some v):(Builtin.cap_ ts ty #[conc m x]).run P w=.ok (conc m v) w/\idsA v=[]:=by
 have ha0:∀x:Value,(#[x]:Array Value)[0]? = some x:=fun _=>rfl
 cases hu:T.und t with
 | none=>simp [hu,capD] at h
 | some d=>
   rw [hu] at h
   cases d<;>simp only [capD,reduceCtorEq] at h
   cases x<;>(try simp only [reduceCtorEq,Option.some.injEq] at h)
   · rename_i id off len c
     cases c<;>simp only [reduceCtorEq,Option.some.injEq] at h
     subst h
     rw [goInt_eq]
     refine ⟨?_,by simp [idsA]⟩
     simp only [Builtin.cap_,hts,ha0,Sem.run_bind,run_und hT hu w,Result.andThen_ok,conc,Sem.run_pure,Go.goInt,capC]
   · subst h
     rw [goInt_eq]
     refine ⟨?_,by simp [idsA]⟩
     simp only [Builtin.cap_,hts,ha0,Sem.run_bind,run_und hT hu w,Result.andThen_ok,conc,Sem.run_pure,Go.goInt]
omit hT hi in
theorem min_fold {k:IntKind}:∀{vs:List AV} {acc:Int} {v:AV},foldInt minI k acc vs=some v->((concL m vs).foldlM Builtin.min2 (.int k acc)).run P w=.ok (conc m v) w/\idsA v=[]
 | [],acc,v,h=>by cases h;simp [concL,conc,idsA]
 | x::vs,acc,v,h=>by
   cases x<;>simp only [foldInt,reduceCtorEq] at h
   rename_i k' y
   obtain ⟨h1,h2⟩:=min_fold h
   refine ⟨?_,h2⟩
   have e:minI acc y=if y<acc then y else acc:=by
    unfold minI
    rw [intLe_dec]
    by_cases hle:acc≤y
    · rw [decide_eq_true hle,cond_true,if_neg (by omega)]
    · rw [decide_eq_false hle,cond_false,if_pos (by omega)]
   rw [e] at h1
   simpa [concL,conc,Builtin.min2] using h1
omit hT hi in
theorem max_fold {k:IntKind}:∀{vs:List AV} {acc:Int} {v:AV},foldInt maxI k acc vs=some v->((concL m vs).foldlM Builtin.max2 (.int k acc)).run P w=.ok (conc m v) w/\idsA v=[]
 | [],acc,v,h=>by cases h;simp [concL,conc,idsA]
 | x::vs,acc,v,h=>by
   cases x<;>simp only [foldInt,reduceCtorEq] at h
   rename_i k' y
   obtain ⟨h1,h2⟩:=max_fold h
   refine ⟨?_,h2⟩
   have e:maxI acc y=if y > acc then y else acc:=by
    unfold maxI
    rw [intLe_dec]
    by_cases hle:y≤acc
    · rw [decide_eq_true hle,cond_true,if_neg (by omega)]
    · rw [decide_eq_false hle,cond_false,if_pos (by omega)]
   rw [e] at h1
   simpa [concL,conc,Builtin.max2] using h1
theorem builtin_ok {b:Builtin} {ts:Array TypeId} {ty:TypeId} {consts:Array Bool} {vs:List AV} {r:AV×Own} (hv:okL D m vs) (h:builtinA T C o b ts.toList vs=some r):OpOK P cfg C D m o w (Go.builtin b ts ty consts (concL m vs).toArray) r:=by
 have ht:∀i,ts.toList[i]? = ts[i]? := fun i=>Array.getElem?_toList
 unfold builtinA at h
 cases b<;>(try simp only [reduceCtorEq] at h)
 case append=>
  simp only [ob_some,ht] at h
  obtain ⟨t,h0,u,h1,h⟩:=h
  match vs,h,hv with
  | [s,x],h,hv=>
    have hs:=(okL_cons.1 hv).1
    have hx:=(okL_cons.1 (okL_cons.1 hv).2).1
    obtain ⟨D',m',w',hr,ho,he⟩:=append_ok (ty:=ty) hT hi h0 h1 hs hx h
    exact ⟨D',m',w',_,by simp only [Go.builtin,Sem.run_bind,concL];rw [hr];rfl,.inl rfl,ho,he⟩
  | [],h,_=>cases h
  | [_],h,_=>cases h
  | _::_::_::_,h,_=>cases h
 case cap=>
  simp only [keep_some,ob_some,ht] at h
  obtain ⟨⟨t,h0,h⟩,ho⟩:=h
  match vs,h with
  | [x],h=>
    obtain ⟨h1,h2⟩:=cap_ok (P:=P) (m:=m) (w:=w) (ty:=ty) hT h0 h
    exact OpOK.pure hi ho (by simp only [Go.builtin,Sem.run_bind,concL];rw [h1];rfl) (okV_none h2)
  | [],h=>cases h
  | _::_::_,h=>cases h
 case copy=>
  simp only [ob_some,ht] at h
  obtain ⟨t,h0,h⟩:=h
  match vs,h,hv with
  | [s,x],h,hv=>
    have hs:=(okL_cons.1 hv).1
    have hx:=(okL_cons.1 (okL_cons.1 hv).2).1
    obtain ⟨D',m',w',hr,ho,he⟩:=copy_ok (ty:=ty) hT hi h0 hs hx h
    exact ⟨D',m',w',_,by simp only [Go.builtin,Sem.run_bind,concL];rw [hr];rfl,.inl rfl,ho,he⟩
  | [],h,_=>cases h
  | [_],h,_=>cases h
  | _::_::_::_,h,_=>cases h
 case len=>
  simp only [keep_some,ob_some,ht] at h
  obtain ⟨⟨t,h0,h⟩,ho⟩:=h
  match vs,h with
  | [x],h=>
    obtain ⟨h1,h2⟩:=len_ok (P:=P) (m:=m) (w:=w) (ty:=ty) hT h0 h
    exact OpOK.pure hi ho (by simp only [Go.builtin,Sem.run_bind,concL];rw [h1];rfl) (okV_none h2)
  | [],h=>cases h
  | _::_::_,h=>cases h
 case max=>
  simp only [keep_some] at h
  obtain ⟨h,ho⟩:=h
  match vs,h with
  | .int k x::rest,h=>
    obtain ⟨h1,h2⟩:=max_fold (P:=P) (m:=m) (w:=w) h
    refine OpOK.pure hi ho ?_ (okV_none h2)
    simp only [Go.builtin,Builtin.max_,Sem.run_bind,concL,conc]
    rw [h1];rfl
  | [],h=>cases h
  | .bool _::_,h=>cases h
  | .str _::_,h=>cases h
  | .ptr ..::_,h=>cases h
  | .nilptr::_,h=>cases h
  | .slice ..::_,h=>cases h
  | .nilslice::_,h=>cases h
  | .func ..::_,h=>cases h
  | .nilfunc::_,h=>cases h
  | .iface ..::_,h=>cases h
  | .niliface::_,h=>cases h
  | .agg _::_,h=>cases h
  | .tuple _::_,h=>cases h
  | .map _::_,h=>cases h
  | .nilmap::_,h=>cases h
 case min=>
  simp only [keep_some] at h
  obtain ⟨h,ho⟩:=h
  match vs,h with
  | .int k x::rest,h=>
    obtain ⟨h1,h2⟩:=min_fold (P:=P) (m:=m) (w:=w) h
    refine OpOK.pure hi ho ?_ (okV_none h2)
    simp only [Go.builtin,Builtin.min_,Sem.run_bind,concL,conc]
    rw [h1];rfl
  | [],h=>cases h
  | .bool _::_,h=>cases h
  | .str _::_,h=>cases h
  | .ptr ..::_,h=>cases h
  | .nilptr::_,h=>cases h
  | .slice ..::_,h=>cases h
  | .nilslice::_,h=>cases h
  | .func ..::_,h=>cases h
  | .nilfunc::_,h=>cases h
  | .iface ..::_,h=>cases h
  | .niliface::_,h=>cases h
  | .agg _::_,h=>cases h
  | .tuple _::_,h=>cases h
  | .map _::_,h=>cases h
  | .nilmap::_,h=>cases h
end
def footIds:Foot->List Nat
 | .bar ids=>ids
 | _=>[]
def CallS (P:Program) (f:FuncId) (args:Array Value) (w:World) (R:Value->World->Prop):Prop:=
 ((callFunc f args).run P w=.ok (.enter f args) w/\Calls P f args w fun e w'=>∃v,e=.returned v/\R v w')∨∃v w',(callFunc f args).run P w=.ok (.value v) w'/\R v w'
theorem CallS.mono {P:Program} {f:FuncId} {args:Array Value} {w:World} {R R':Value->World->Prop} (h:CallS P f args w R) (hr:∀v w',R v w'->R' v w'):CallS P f args w R':=
 h.elim (fun ⟨a,b⟩=>.inl ⟨a,b.mono fun _ _ ⟨v,e,r⟩=>⟨v,e,hr _ _ r⟩⟩) fun ⟨v,w',a,b⟩=>.inr ⟨v,w',a,hr _ _ b⟩
def FR (x:Option Nat):Fence:={ Fence.wide with round:=x }
theorem callsFR {x:Option Nat} {n:Nat} {P:Program} {f:FuncId} {args:Array Value} {w:World} {R:Ending->World->Prop} (h:Calls P f args w R):CallsIn (FR x) n P f args w R:=
 (callsIn_wide.2 h:CallsIn Fence.wide n P f args w R)
def RoundS (P:Program) (l:Nat) (args:Array Value) (w:World) (R:Value->World->Prop):Prop:=
 ∃fn tmps assign body,(Instr.yield l args).run P w=.ok (.round l fn tmps assign body) w/\RoundIn Fence.wide 0 P l fn tmps assign body w fun e w'=>∃v,e=.returned v/\R v w'
def Mute (D:Nat->Prop) (w:World) (D':Nat->Prop) (m':Nat->Loc) (w':World):Prop:=
 (∀k,k<w.heap.size->w'.heap[k]? = w.heap[k]?)/\∀i,D' i->¬D i->w.heap.size≤(m' i).blk
def CallOK (P:Program) (cfg:Cfg) (mu:Prop) (call:Ctx->FuncId->List AV->Own->Option (AV×Own)):Prop:=
 ∀C f args o r,call C f args o=some r->∀D m w,Inv cfg D m C o w->okL D m args->
  CallS P f (concL m args).toArray w fun V w'=>∃D' m',V=conc m' r.1/\okV D' m' r.1/\Ext cfg C D m o w D' m' r.2 w'/\(mu->namesAt args (cfg.lend f)=[]->Mute D w D' m' w')
def RndOK (P:Program) (cfg:Cfg) (mu:Prop) (rnd:Ctx->Nat->List AV->Own->Option (AV×Own)):Prop:=
 ∀C id args o r,rnd C id args o=some r->(mu->False)/\∀D m w,Inv cfg D m C o w->D id->okL D m args->
  RoundS P (m id).blk (concL m args).toArray w fun V w'=>∃D' m',V=conc m' r.1/\okV D' m' r.1/\Ext cfg C D m o w D' m' r.2 w'
theorem rnd0_ok {P:Program} {cfg:Cfg} {mu:Prop}:RndOK P cfg mu rnd0:=fun C id args o r h=>by cases h
section
variable {P:Program} {T:Tab} (hT:TabOK P T) {cfg:Cfg} {C:Ctx} {D:Nat->Prop} {m:Nat->Loc} {o:Own} {w:World} (hi:Inv cfg D m C o w) {ρ:Operand->Option AV}
include hT hi
theorem opA_ok {ev:Operand->Value} (hρ:RhoOK D m ρ ev) {oo:Oper} {r:AV×Own} (h:opA T C ρ o oo.op=some r):OpS P cfg C D m o w ev oo r:=by
 unfold opA at h
 cases ho:oo.op<;>rw [ho] at h<;>simp only [opSel] at h
 case move=>exact do_move hi hρ (.inl ho) h
 case assign=>exact do_move hi hρ (.inr ho) h
 case pick=>exact do_pick hi hρ ho h
 case alloc=>exact do_alloc hT hi hρ ho h
 case box=>exact do_box hi hρ ho h
 case build=>exact do_build hT hi hρ ho h
 case buildSlice=>exact do_buildSlice hT hi hρ ho h
 case insert=>exact do_mapUp hT hi hρ (.inl ho) h
 case load=>exact do_load hT hi hρ ho h
 case store=>exact do_store hT hi hρ ho h
 case nilCheck=>exact do_nilCheck hi hρ ho h
 case binOp=>exact do_bin hT hi hρ ho h
 case unOp=>exact do_un hi hρ ho h
 case convert=>exact do_convert hT hi hρ ho h
 case makeInterface=>exact do_iface hT hi hρ ho h
 case makeFunc=>exact do_func hi hρ ho h
 case makeMap=>exact do_makeMap hi hρ ho h
 case makeSlice=>exact do_makeSlice hT hi hρ ho h
 case slice=>exact do_slice hT hi hρ ho h
 case fieldAddr=>exact do_fieldAddr hT hi hρ ho h
 case field=>exact do_field hT hi hρ ho h
 case indexAddr=>exact do_indexAddr hT hi hρ ho h
 case index=>exact do_index hT hi hρ ho h
 case lookup=>exact do_lookup hT hi hρ ho h
 case mapUpdate=>exact do_mapUp hT hi hρ (.inr ho) h
 case range=>exact do_range hT hi hρ ho h
 case next=>exact do_next hi hρ ho h
 case extract=>exact do_extract hi hρ ho h
 all_goals cases h
theorem step_ok {mu:Prop} {x:Option Nat} {a:Act} (hρ:RhoOK D m ρ a.eval) {call:Ctx->FuncId->List AV->Own->Option (AV×Own)} {rnd:Ctx->Nat->List AV->Own->Option (AV×Own)} (hc:CallOK P cfg mu call) (hrd:RndOK P cfg mu rnd)
 {oo:Oper} {r:AV×Own} (h:stepA T call rnd C ρ o oo.op=some r)
 {next:Act->World->Prop} {Q:Exit->Act->World->Prop} (hn:∀D' m' w',okV D' m' r.1->Ext cfg C D m o w D' m' r.2 w'->(mu->kindOp oo.op=.call->footIds (footA cfg ρ oo.op)=[]->Mute D w D' m' w')->next (a.put oo.dst (conc m' r.1)) w'):oo.wpIn (FR x) 0 P a w next Q:=by
 have hnd:∀c,oo.op≠.defer c:=fun c e=>by rw [e] at h;cases h
 have hsem:oo.semAt (FR x).round a.eval=execOp a.eval oo:=Oper.semAt_eq _ _ _ hnd
 have hdep:∀k:Nat,(FR x).depth.isSome=true->1≤k:=fun k hk=>by cases hk
 unfold Oper.wpIn
 refine ⟨fun _ _=>trivial,?_⟩
 rw [hsem]
 have fin:kindOp oo.op≠.call->OpOK P cfg C D m o w (execOp a.eval oo) r->oo.uponIn (FR x) 0 P a next Q ((execOp a.eval oo).run P w):=by
  rintro hk ⟨D',m',w',nx,hr,hx,hv,he⟩
  rw [hr]
  rcases hx with rfl|⟨rfl,hu⟩
  · exact hn D' m' w' hv he fun _ e=>absurd e hk
  · have:=hn D' m' w' hv he fun _ e=>absurd e hk
    rw [hu,conc_undef] at this
    exact this
 unfold stepA at h
 split at h
 · rename_i c hoc
   unfold callC at h
   cases hcal:c.callee with
   | value f=>
     simp only [hcal,ob_some] at h
     obtain ⟨fv,hf,vs,hvs,h⟩:=h
     obtain ⟨h1,h2⟩:=hρ f _ hf
     obtain ⟨h3,h4⟩:=mapAll_arr hρ hvs
     cases fv<;>simp only [callV,reduceCtorEq] at h
     · rename_i fid first captured
       have hok:okL D m (first++vs++captured):=by
        have:okL D m first/\okL D m captured:=⟨fun i hm=>h2 i (by simp [idsA,hm]),fun i hm=>h2 i (by simp [idsA,hm])⟩
        exact okL_append.2 ⟨okL_append.2 ⟨this.1,h4⟩,this.2⟩
       have hcs:=hc C fid _ o r h D m w hi hok
       have hargs:(concL m first).toArray++(concL m vs).toArray++(concL m captured).toArray=(concL m (first++vs++captured)).toArray:=by
        simp [concL_app]
       have hex:∀nx w',(callFunc fid (concL m (first++vs++captured)).toArray).run P w=.ok nx w'->(execOp a.eval oo).run P w=.ok nx w':=by
        intro nx w' hrun
        simp only [execOp,hoc,resolve,hcal,h1,conc,Deferred.ofValue,h3,Sem.run_bind,Sem.run_pure,Result.andThen_ok,invoke]
        rw [hargs];exact hrun
       have hmu:∀D' m' w',(mu->namesAt (first++vs++captured) (cfg.lend fid)=[]->Mute D w D' m' w')->mu->kindOp oo.op=.call->footIds (footA cfg ρ oo.op)=[]->Mute D w D' m' w':=by
        intro D' m' w' hm hmu _ hf'
        refine hm hmu ?_
        simp only [hoc,footA,hcal,footC,hf,hvs,footF] at hf'
        cases hna:namesAt (first++vs++captured) (cfg.lend fid) with
        | nil=>rfl
        | cons x xs=>rw [hna] at hf';cases hf'
       rcases hcs with ⟨hent,hcalls⟩|⟨v,w',hval,D',m',rfl,hv,he,hm⟩
       · rw [hex _ _ hent,Oper.uponIn_enter]
         refine ⟨hdep _,CallsIn.mono (callsFR hcalls) ?_⟩
         rintro e w' ⟨v,rfl,D',m',rfl,hv,he,hm⟩
         exact hn D' m' w' hv he (hmu D' m' w' hm)
       · rw [hex _ _ hval,Oper.uponIn_value]
         exact hn D' m' w' hv he (hmu D' m' w' hm)
     · rename_i id
       obtain ⟨hmf,hrr⟩:=hrd C id vs o r h
       obtain ⟨fn,tmps,assign,body,hy,hR⟩:=hrr D m w hi (h2 _ (by simp [idsA];rfl)).1 h4
       have hex:∀nx w',(Instr.yield (m id).blk (concL m vs).toArray).run P w=.ok nx w'->(execOp a.eval oo).run P w=.ok nx w':=by
        intro nx w' hrun
        simp only [execOp,hoc,resolve,hcal,h1,conc,Deferred.ofValue,h3,Sem.run_bind,Sem.run_pure,Result.andThen_ok,invoke]
        simpa using hrun
       rw [hex _ _ hy,Oper.uponIn_round]
       refine ⟨hdep _,RoundIn.mono (F:=FR x) hR ?_⟩
       rintro e w' ⟨v,rfl,D',m',rfl,hv,he⟩
       exact hn D' m' w' hv he fun hm=>(hmf hm).elim
   | builtin b=>
     simp only [hcal,ob_some] at h
     obtain ⟨vs,hvs,h⟩:=h
     obtain ⟨h3,h4⟩:=mapAll_arr hρ hvs
     refine fin (by rw [hoc];simp only [kindOp,hcal,kindC];cases b<;>simp [kindB]) ?_
     obtain ⟨D',m',w',nx,hr,hx⟩:=builtin_ok (ty:=oo.type) (consts:=c.args.map fun|.const _=>true|_=>false) hT hi h4 h
     refine ⟨D',m',w',nx,?_,hx⟩
     simp only [execOp,hoc,resolve,hcal,h3,Sem.run_bind,Sem.run_pure,Result.andThen_ok,invoke]
     exact hr
   | invoke x n=>simp [hcal] at h
 · rename_i hne
   refine fin (fun e=>?_) (opA_ok hT hi hρ h)
   cases hop:oo.op<;>rw [hop] at e<;>simp only [kindOp,reduceCtorEq] at e
   exact hne _ hop
end
theorem wanted_eq {D:Nat->Prop} {m:Nat->Loc} {st:St} {a:Act} (ht:TR D m st a) {ops:Array Oper} {oo:Oper}:Region.wanted oo (yielded ops a.tmps)=wantedA ops st.ts oo.guard:=by
 unfold Region.wanted wantedA
 cases oo.guard with
 | none=>rfl
 | some jw=>
   obtain ⟨j,want⟩:=jw
   simp only [yielded]
   cases hj:ops[j]? with
   | none=>simp
   | some op=>
     cases hd:op.dst with
     | none=>simp [hd,wantedT]
     | some t=>
       have hat:=ht.at' t
       simp only [Option.bind_some,hd,wantedT]
       cases hg:a.tmps[t]? with
       | none=>
         have:a.tmps.getD t undef=undef:=by
          rw [Array.getElem?_eq_none_iff] at hg
          simp only [Array.getD]
          rw [dif_neg (by omega)]
         rw [this] at hat
         cases hv:st.ts.get t<;>rw [hv] at hat<;>simp [conc,undef] at hat<;>first|rfl|(subst hat;rfl)
       | some v=>
         have:a.tmps.getD t undef=v:=by simp [hg]
         rw [this] at hat
         subst hat
         cases hv:st.ts.get t with
         | any v=>simp only [conc,isTrue];cases v<;>simp [isTrueV,want_beq]
         | _=>simp [conc,isTrue,want_beq]
theorem rho_of_TR {cfg:Cfg} {D:Nat->Prop} {m:Nat->Loc} {C:Ctx} {st:St} {a:Act} {w:World} (hi:Inv cfg D m C st.o w) (ht:TR D m st a):RhoOK D m (evalA cfg.G st.ts) a.eval:=fun _ _ h=>evalA_conc hi ht h
section
variable {P:Program} {T:Tab} (hT:TabOK P T) {cfg:Cfg} {C:Ctx} {mu:Prop} {call:Ctx->FuncId->List AV->Own->Option (AV×Own)} {rnd:Ctx->Nat->List AV->Own->Option (AV×Own)} (hc:CallOK P cfg mu call) (hrd:RndOK P cfg mu rnd)
include hT hc hrd
theorem ops_ok {ops:Array Oper} {Q:Exit->Act->World->Prop} {x:Option Nat}:∀(l:List Oper) (k:Nat),ops.toList.drop k=l->∀{D:Nat->Prop} {m:Nat->Loc} {st st':St} {a:Act} {w:World},Inv cfg D m C st.o w->TR D m st a->opsA T cfg call rnd C ops l st=some st'->
 (∀D' m' a' w',TR D' m' st' a'->Ext cfg C D m st.o w D' m' st'.o w'->Q .normal a' w')->wpOpsIn (FR x) 0 P ops Q (List.range' k l.length) a w
 | [],k,hl,D,m,st,st',a,w,hi,ht,h,hq=>by
   cases h
   exact hq D m a w ht (Ext.refl hi)
 | oo::rest,k,hl,D,m,st,st',a,w,hi,ht,h,hq=>by
   have hk:ops[k]? = some oo:=by
    have:(ops.toList.drop k)[0]? = some oo:=by rw [hl];rfl
    rw [List.getElem?_drop] at this
    simpa using this
   have hrest:ops.toList.drop (k+1)=rest:=by
    rw [←List.drop_drop,hl];rfl
   simp only [opsA,ob_some] at h
   obtain ⟨st1,hs,h⟩:=h
   simp only [List.length_cons,List.range'_succ,wpOpsIn,hk]
   rw [wanted_eq ht]
   cases hw:wantedA ops st.ts oo.guard with
   | true=>
     rw [hw,cond_true,ob_some] at hs
     obtain ⟨r,hr,hp⟩:=hs
     rw [if_pos rfl]
     refine step_ok hT hi (rho_of_TR hi ht) hc hrd hr fun D' m' w' hv he _=>?_
     obtain ⟨ht',ho,_⟩:=(ht.mono he.sub he.same).put hp hv
     have hi':Inv cfg D' m' C st1.o w':=by rw [ho];exact he.inv
     refine ops_ok rest (k+1) hrest hi' ht' h fun D2 m2 a2 w2 ht2 he2=>hq D2 m2 a2 w2 ht2 ?_
     rw [ho] at he2
     exact he.trans he2
   | false=>
     rw [hw,cond_false] at hs
     rw [if_neg (by simp)]
     refine ⟨fun _ _=>trivial,?_⟩
     obtain ⟨ht',ho,_⟩:=ht.put hs okV_undef
     rw [conc_undef] at ht'
     have hi':Inv cfg D m C st1.o w:=by rw [ho];exact hi
     refine ops_ok rest (k+1) hrest hi' ht' h fun D2 m2 a2 w2 ht2 he2=>hq D2 m2 a2 w2 ht2 ?_
     rw [ho] at he2;exact he2
end
theorem forceN_eq {α:Type} (k:Nat->α) (n:Nat):forceN k n=k n:=by cases n<;>rfl
theorem forceL_eq {α:Type} (k:List Nat->α) (l:List Nat):forceL k l=k l:=by cases l<;>rfl
theorem bitsAt_lt {acc:List Nat} {n j i:Nat} (h:(bitsAt acc n j).testBit i=true):j<n:=by
 unfold bitsAt at h
 cases hb:natLt j n with
 | true=>exact natLt_iff.1 hb
 | false=>simp [hb] at h
theorem orE_bit {acc:List Nat} {n i:Nat}:∀{es:List Edge} {s:Nat},(orE acc n es s).testBit i=true->s.testBit i=true∨∃e∈es,Region.binds .any e=true/\(e.on=i∨(bitsAt acc n e.on).testBit i=true)
 | [],s,h=>.inl h
 | e::es,s,h=>by
   rw [orE] at h
   rcases orE_bit h with h|⟨e',he,h1,h2⟩
   · cases hb:Region.binds .any e with
     | false=>rw [hb,cond_false] at h;exact .inl h
     | true=>
       rw [hb,cond_true,Nat.testBit_or,Nat.testBit_or,Nat.testBit_two_pow,Bool.or_eq_true,Bool.or_eq_true,decide_eq_true_eq] at h
       rcases h with (h|h)|h
       · exact .inl h
       · exact .inr ⟨e,List.mem_cons_self,hb,.inl h⟩
       · exact .inr ⟨e,List.mem_cons_self,hb,.inr h⟩
   · exact .inr ⟨e',List.mem_cons_of_mem _ he,h1,h2⟩
theorem befR_cons (o:Oper) (prev:List Oper):befR (o::prev)=orE (befR prev) prev.length o.after.toList 0::befR prev:=by
 rw [befR,forceL_eq,forceN_eq]
theorem bitsAt_cons {v n j:Nat} {acc:List Nat}:bitsAt (v::acc) (n+1) j=if j=n then v else bitsAt acc n j:=by
 unfold bitsAt
 by_cases e:j=n
 · subst e
   rw [if_pos rfl,natLt_iff.2 (by omega),cond_true,show j+1-1-j=0 by omega];rfl
 · rw [if_neg e]
   by_cases h:j<n
   · rw [natLt_iff.2 h,natLt_iff.2 (by omega),cond_true,cond_true]
     obtain ⟨k,hk⟩:∃k,n-j=k+1:=⟨n-j-1,by omega⟩
     rw [show n+1-1-j=k+1 by omega,show n-1-j=k by omega];rfl
   · rw [natLt_false.2 (by omega),natLt_false.2 (by omega)];rfl
theorem befR_bit {i:Nat}:∀{R:List Oper} {j:Nat},(bitsAt (befR R) R.length j).testBit i=true->
 ∃o,R[R.length-1-j]? = some o/\∃e∈o.after.toList,Region.binds .any e=true/\(e.on=i∨e.on<j/\(bitsAt (befR R) R.length e.on).testBit i=true)
 | [],j,h=>by have:=bitsAt_lt h;simp at this
 | o::prev,j,h=>by
   have hj:=bitsAt_lt h
   rw [befR_cons] at h ⊢
   rw [List.length_cons] at h hj ⊢
   rw [bitsAt_cons] at h
   by_cases e:j=prev.length
   · rw [if_pos e] at h
     rcases orE_bit h with h|⟨e',he,h1,h2⟩
     · simp at h
     · refine ⟨o,by rw [show prev.length+1-1-j=0 by omega];rfl,e',he,h1,?_⟩
       rcases h2 with h2|h2
       · exact .inl h2
       · have:=bitsAt_lt h2
         exact .inr ⟨by omega,by rw [bitsAt_cons,if_neg (by omega)];exact h2⟩
   · rw [if_neg e] at h
     obtain ⟨o',ho,e',he,h1,h2⟩:=befR_bit h
     have:=bitsAt_lt h
     refine ⟨o',?_,e',he,h1,?_⟩
     · rw [←ho,show prev.length+1-1-j=(prev.length-1-j)+1 by omega];rfl
     · rcases h2 with h2|⟨h2,h3⟩
       · exact .inl h2
       · have:=bitsAt_lt h3
         exact .inr ⟨h2,by rw [bitsAt_cons,if_neg (by omega)];exact h3⟩
def WaitsOK (ops:Array Oper) (E:Nat->Prop) (j:Nat):Prop:=∀o,ops[j]? = some o->∀e∈o.after.toList,Region.binds .any e=true->E e.on
theorem before_in {ops:Array Oper} {E:Nat->Prop} (hd:∀j,E j->WaitsOK ops E j) {i:Nat}:∀j,WaitsOK ops E j->bitAt (befR ops.toList.reverse) ops.size i j=true->E i:=by
 intro j
 induction j using Nat.strongRecOn with
 | ind j ih=>
   intro hj hb
   have hl:ops.toList.reverse.length=ops.size:=by simp
   unfold bitAt at hb
   rw [←hl] at hb
   obtain ⟨o,ho,e,he,h1,h2⟩:=befR_bit hb
   have hjl:=bitsAt_lt hb
   rw [hl] at hjl ho
   have hget:ops[j]? = some o:=by
    rw [List.getElem?_reverse (by simp;omega)] at ho
    simp only [Array.length_toList,Array.getElem?_toList] at ho
    rw [show ops.size-1-(ops.size-1-j)=j by omega] at ho
    exact ho
   have hon:=hj o hget e he h1
   rcases h2 with h2|⟨h2,h3⟩
   · exact h2▸hon
   · rw [hl] at h3
     exact ih e.on h2 (hd _ hon) h3
theorem mapAll_get {ρ:Operand->Option AV}:∀{xs:List Operand} {vs:List AV},mapAll ρ xs=some vs->∀k:Nat,(xs[k]?).bind ρ=vs[k]?
 | [],vs,h,k=>by cases h;simp
 | x::xs,vs,h,k=>by
   simp only [mapAll,ob_some,Option.some.injEq] at h
   obtain ⟨v,hv,vs',hvs,rfl⟩:=h
   cases k with
   | zero=>simp [hv]
   | succ k=>simpa using mapAll_get hvs k
structure StepF (C:Ctx) (o o':Own) (ids:List Nat):Prop where
 grow:o.n≤o'.n
 le:o'.le.map (·.1)=o.le.map (·.1)
 len:o'.os.length=o'.n
 same:(∀id∈ids,id<C.lo+o.n)->∀i,i<C.lo+o.n->i∉ids->get C o' i=get C o i
theorem StepF.refl {C:Ctx} {o:Own} {ids:List Nat} (h:o.os.length=o.n):StepF C o o ids:=⟨Nat.le_refl _,rfl,h,fun _ _ _ _=>rfl⟩
theorem StepF.push {C:Ctx} {o:Own} {x:AObj} {ids:List Nat} (h:o.os.length=o.n):StepF C o (o.push x) ids:=
 ⟨by simp [Own.push],rfl,by simp [Own.push,h],fun _ i hi _=>by rw [get_push (by omega),if_neg (by omega)]⟩
theorem get_putO {C:Ctx} {o:Own} {x:AObj} {id j:Nat} (hl:o.os.length=o.n) (hi:id<C.lo+o.n) (hj:j<C.lo+o.n) (hn:j≠id):get C (putO C o id x) j=get C o j:=by
 unfold get getB putO
 cases hb:Nat.ble C.lo id with
 | true=>
   have h1:=ble_iff.1 hb
   simp only [cond_true]
   cases hc:Nat.ble C.lo j with
   | true=>
     have h2:=ble_iff.1 hc
     simp only [cond_true]
     rw [Own.at_put o x _ _ hl (by omega) (by omega),if_neg (by omega)]
   | false=>rfl
 | false=>
   simp only [cond_false]
   cases hc:Nat.ble C.lo j with
   | true=>rfl
   | false=>
     simp only [cond_false]
     rw [leAt_lePut,if_neg (fun h=>hn h.1)]
theorem StepF.put {C:Ctx} {o:Own} {x:AObj} {id:Nat} {ids:List Nat} (h:o.os.length=o.n) (hm:id∈ids):StepF C o (putO C o id x) ids:=
 ⟨Nat.le_of_eq put_n.symm,put_le,put_len h,fun hb i hi hn=>get_putO h (hb id hm) hi (fun e=>hn (e▸hm))⟩
theorem StepF.trans {C:Ctx} {o o1 o2:Own} {ids:List Nat} (h:StepF C o o1 ids) (k:StepF C o1 o2 ids):StepF C o o2 ids:=
 ⟨Nat.le_trans h.grow k.grow,k.le.trans h.le,k.len,fun hb i hi hn=>by
  have:=h.grow
  rw [k.same (fun id hm=>by have:=hb id hm;omega) i (by omega) hn,h.same hb i hi hn]⟩
theorem allLt_iff {n:Nat}:∀{l:List Nat},allLt n l=true↔∀x∈l,x<n
 | []=>by simp [allLt]
 | x::l=>by simp [allLt,allLt_iff (l:=l),natLt_iff]
theorem footLt_iff {n:Nat} {f:Foot}:footLt n f=true↔∀x∈footIds f,x<n:=by
 cases f<;>simp [footLt,footIds,allLt_iff]
theorem writeA_foot {C:Ctx} {o o':Own} {id off:Nat} {vs:List AV} {ids:List Nat} (h:writeA C o id off vs=some o') (hl:o.os.length=o.n) (hm:id∈ids):StepF C o o' ids:=by
 simp only [writeA,ob_some,Option.some.injEq] at h
 obtain ⟨x,_,x',_,rfl⟩:=h
 exact .put hl hm
theorem appendTo_foot {C:Ctx} {o:Own} {size n:Nat} {new:List AV} {s:AV} {r:AV×Own} {ids:List Nat} (h:appendTo C o size n new s=some r) (hl:o.os.length=o.n)
 (hm:∀id,nameOf s=some id->id∈ids):StepF C o r.2 ids:=by
 cases s<;>simp only [appendTo,reduceCtorEq,Option.some.injEq] at h
 case slice id off len c=>
  have h1:=hm id rfl
  cases c with
  | known c=>
    simp only [appendCap,appendKnown] at h
    cases hb:Nat.ble (len+n) c with
    | true=>
      simp only [hb,cond_true,ob_some,Option.some.injEq] at h
      obtain ⟨o',hw,rfl⟩:=h
      exact writeA_foot hw hl h1
    | false=>
      simp only [hb,cond_false,ob_some,Option.some.injEq] at h
      obtain ⟨old,hw,rfl⟩:=h
      exact .push hl
  | rest k=>
    simp only [appendCap,appendRest,ok_some,ob_some,Option.some.injEq] at h
    obtain ⟨_,x,_,cs,_,rfl⟩:=h
    exact (StepF.put hl h1).trans (.push (put_len hl))
 case nilslice=>subst h;exact .push hl
def CallFoot (cfg:Cfg) (call:Ctx->FuncId->List AV->Own->Option (AV×Own)):Prop:=
 ∀C f args o r,call C f args o=some r->o.os.length=o.n->StepF C o r.2 (namesAt args (cfg.lend f))
theorem keep_foot {C:Ctx} {o:Own} {x:Option AV} {r:AV×Own} {ids:List Nat} (hl:o.os.length=o.n) (h:keep o x=some r):StepF C o r.2 ids:=by
 rw [(keep_some.1 h).2];exact .refl hl
theorem bar1_ids {x:Option Nat} {id:Nat} (h:x=some id):footIds (bar1 x)=[id]:=by subst h;rfl
section
variable {T:Tab} {cfg:Cfg} {C:Ctx} {o:Own} {ρ:Operand->Option AV}
theorem opA_foot {op:Op} {r:AV×Own} (h:opA T C ρ o op=some r) (hl:o.os.length=o.n):StepF C o r.2 (footIds (footA cfg ρ op)):=by
 unfold opA at h
 cases op<;>simp only [opSel] at h
 case move=>exact keep_foot hl h
 case assign=>exact keep_foot hl h
 case pick=>exact keep_foot hl h
 case build=>exact keep_foot hl h
 case load=>exact keep_foot hl h
 case nilCheck=>exact keep_foot hl h
 case binOp=>exact keep_foot hl h
 case unOp=>exact keep_foot hl h
 case makeInterface=>exact keep_foot hl h
 case makeFunc=>exact keep_foot hl h
 case slice=>exact keep_foot hl h
 case fieldAddr=>exact keep_foot hl h
 case field=>exact keep_foot hl h
 case indexAddr=>exact keep_foot hl h
 case index=>exact keep_foot hl h
 case lookup=>exact keep_foot hl h
 case extract=>exact keep_foot hl h
 case alloc=>
  simp only [doAlloc,ob_some,allocV,ok_some,Option.some.injEq] at h
  obtain ⟨z,_,_,rfl⟩:=h;exact .push hl
 case box=>
  simp only [doBox,ob_some,allocV,ok_some,Option.some.injEq] at h
  obtain ⟨z,_,_,rfl⟩:=h;exact .push hl
 case buildSlice=>
  simp only [doBuildSlice,buildSliceA,ob_some,ok_some,Option.some.injEq] at h
  obtain ⟨_,_,_,_,_,_,_,_,_,_,_,_,rfl⟩:=h;exact .push hl
 case makeMap=>
  simp only [doMakeMap,ok_some,Option.some.injEq] at h
  obtain ⟨_,rfl⟩:=h;exact .push hl
 case makeSlice=>
  simp only [doMakeSlice,makeSliceA,ob_some,ok_some,Option.some.injEq] at h
  obtain ⟨_,_,_,_,_,_,_,_,_,_,_,_,_,_,_,rfl⟩:=h;exact .push hl
 case range=>
  simp only [doRange,ob_some] at h
  obtain ⟨v,_,h⟩:=h
  cases v<;>simp only [rangeA,reduceCtorEq,ok_some,Option.some.injEq] at h
  obtain ⟨_,rfl⟩:=h;exact .push hl
 case convert=>
  simp only [doConvert,ob_some] at h
  obtain ⟨v,_,h⟩:=h
  cases v<;>simp only [convertA,reduceCtorEq,ok_some] at h
  · exact keep_foot hl h.2
  · obtain ⟨_,h⟩:=h
    unfold convStr at h
    split at h
    · cases h;exact .refl hl
    · simp only [ok_some,Option.some.injEq] at h
      obtain ⟨_,rfl⟩:=h;exact .push hl
    · cases h
  · exact keep_foot hl h
 case store t a x=>
  simp only [doStore,ob_some,Option.some.injEq] at h
  obtain ⟨p,hp,v,hv,o',hs,rfl⟩:=h
  cases p<;>simp only [storeA,reduceCtorEq,ob_some,ok_some] at hs
  rename_i id off
  obtain ⟨_,_,_,hs⟩:=hs
  have e:footIds (footA cfg ρ (.store t a x))=[id]:=bar1_ids (by rw [hp];rfl)
  rw [e]
  exact writeA_foot hs hl (by simp)
 case insert t m k x=>
  simp only [doMapUp,ob_some] at h
  obtain ⟨p,hp,kv,hk,v,hv,h⟩:=h
  simp only [mapUpA,ob_some,ok_some] at h
  obtain ⟨_,_,_,h⟩:=h
  cases p<;>simp only [insertA,reduceCtorEq,ob_some] at h
  rename_i id
  obtain ⟨_,_,es,_,fr,_,h⟩:=h
  have e:footIds (footA cfg ρ (.insert t m k x))=[id]:=bar1_ids (by rw [hp];rfl)
  rw [e]
  cases fr<;>simp only [ob_some,Option.some.injEq] at h
  · subst h
    exact .put hl (by simp)
  · obtain ⟨_,_,rfl⟩:=h
    exact .put hl (by simp)
 case mapUpdate t m k x=>
  simp only [doMapUp,ob_some] at h
  obtain ⟨p,hp,kv,hk,v,hv,h⟩:=h
  simp only [mapUpA,ob_some,ok_some] at h
  obtain ⟨_,_,_,h⟩:=h
  cases p<;>simp only [insertA,reduceCtorEq,ob_some] at h
  rename_i id
  obtain ⟨_,_,es,_,fr,_,h⟩:=h
  have e:footIds (footA cfg ρ (.mapUpdate t m k x))=[id]:=bar1_ids (by rw [hp];rfl)
  rw [e]
  cases fr<;>simp only [ob_some,Option.some.injEq] at h
  · subst h
    exact .put hl (by simp)
  · obtain ⟨_,_,rfl⟩:=h
    exact .put hl (by simp)
 case next it s=>
  simp only [doNext,ob_some,ok_some] at h
  obtain ⟨_,p,hp,h⟩:=h
  unfold nextA at h
  split at h
  · rename_i id
    simp only [ob_some] at h
    obtain ⟨x,_,h⟩:=h
    have e:footIds (footA cfg ρ (.next it s))=[id]:=bar1_ids (by rw [hp];rfl)
    rw [e]
    cases x<;>simp only [nextObj,reduceCtorEq,Option.some.injEq] at h
    subst h
    unfold nextS
    cases natLt _ _ with
    | true=>exact .put hl (by simp)
    | false=>exact .refl hl
  · cases h
 all_goals cases h
theorem stepA_foot {call:Ctx->FuncId->List AV->Own->Option (AV×Own)} (hc:CallFoot cfg call) {op:Op} {r:AV×Own} (h:stepA T call rnd0 C ρ o op=some r) (hl:o.os.length=o.n) :
 StepF C o r.2 (footIds (footA cfg ρ op)):=by
 unfold stepA at h
 split at h
 · rename_i c
   unfold callC at h
   cases hcal:c.callee with
   | value f=>
     simp only [hcal,ob_some] at h
     obtain ⟨fv,hf,vs,hvs,h⟩:=h
     cases fv<;>simp only [callV,rnd0,reduceCtorEq] at h
     rename_i fid first captured
     have e:footIds (footA cfg ρ (.call c))=namesAt (first++vs++captured) (cfg.lend fid):=by
      simp only [footA,hcal,footC,hf,hvs,footF]
      cases namesAt (first++vs++captured) (cfg.lend fid)<;>rfl
     rw [e]
     exact hc C fid _ o r h hl
   | builtin b=>
     simp only [hcal,ob_some] at h
     obtain ⟨vs,hvs,h⟩:=h
     have h0:=mapAll_get hvs 0
     have hn:∀x y,vs=[x,y]->∀id,nameOf x=some id->footIds (bar1 (ob c.args.toList[0]? fun x=>ob (ρ x) nameOf))=[id]:=by
      rintro x y rfl id hid
      refine bar1_ids ?_
      simp only [List.getElem?_cons_zero] at h0
      cases hx:c.args.toList[0]? with
      | none=>rw [hx] at h0;cases h0
      | some a=>rw [hx] at h0;simp only [Option.bind_some] at h0;simp only [ob,h0,hid]
     unfold builtinA at h
     cases b<;>simp only [reduceCtorEq] at h
     case len=>exact keep_foot hl h
     case cap=>exact keep_foot hl h
     case min=>exact keep_foot hl h
     case max=>exact keep_foot hl h
     case append=>
      have e:footA cfg ρ (.call c)=bar1 (ob c.args.toList[0]? fun x=>ob (ρ x) nameOf):=by simp only [footA,hcal,footC,footB]
      rw [e]
      simp only [ob_some] at h
      obtain ⟨t,_,u,_,h⟩:=h
      unfold two at h
      split at h
      · rename_i s x
        simp only [appendA,ob_some,ok_some] at h
        obtain ⟨_,_,_,_,_,_,_,n,_,_,_,h⟩:=h
        cases hz:Nat.beq n 0 with
        | true=>
          simp only [hz,cond_true,ok_some,Option.some.injEq] at h
          obtain ⟨_,rfl⟩:=h;exact .refl hl
        | false=>
          simp only [hz,cond_false,ob_some,ok_some] at h
          obtain ⟨_,_,_,_,h⟩:=h
          refine appendTo_foot h hl fun id hid=>?_
          rw [hn s x rfl id hid]
          simp
      · cases h
     case copy=>
      have e:footA cfg ρ (.call c)=bar1 (ob c.args.toList[0]? fun x=>ob (ρ x) nameOf):=by simp only [footA,hcal,footC,footB]
      rw [e]
      simp only [ob_some] at h
      obtain ⟨t,_,h⟩:=h
      unfold two at h
      split at h
      · rename_i d s
        simp only [copyA,ob_some,ok_some] at h
        obtain ⟨_,_,_,_,_,_,_,_,_,_,_,h⟩:=h
        cases d with
        | slice id off len c'=>
          simp only [copyTo,ob_some,ok_some,Option.some.injEq] at h
          obtain ⟨_,o',hw,rfl⟩:=h
          rw [hn _ s rfl id rfl]
          exact writeA_foot hw hl (by simp)
        | nilslice=>
          simp only [copyTo,Option.some.injEq] at h
          subst h;exact .refl hl
        | _=>cases h
      · cases h
   | invoke x n=>simp [hcal] at h
 · rename_i hne
   exact opA_foot h hl
end
end Go.Ev
