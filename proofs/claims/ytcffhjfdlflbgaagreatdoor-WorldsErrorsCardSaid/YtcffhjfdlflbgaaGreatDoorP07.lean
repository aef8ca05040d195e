import Derived.RangeFuncIn
import Derived.RangeFuncSeq
import Derived.Test.YtcffhjfdlflbgaaGreatDoorP06
set_option linter.all false
open Option.some renaming injEq->ν
set_option linter.all false
set_option maxRecDepth 100000
set_option maxHeartbeats 4000000
namespace Go.Ev
open Go Go.RowKit
variable{s v:AV}{r:AV×aB}{x:cD}{w:World}{n j id off:Nat}{a:Act}{st:St}{C:bg}{o':aB}{op:Op}
section
variable{P:Program}{T:fm}(hT:fH P T){cfg:cL}{C:bg}{D:Nat->Prop}{m:Nat->bv}{o:aB}{w:World}(hi:dX cfg D m C o w)
include hT hi
theorem Nv{ts:Array TypeId}{ty t:TypeId}{d:AV}(hts:ts[0]? = some t)(hd:dh D m d)(hs:dh D m s)(h:AF T C o t d s=some r) :
 ∃D' m' w',(Builtin.copy_ ts ty #[aj m d,aj m s]).run P w=.ok (aj m' r.1) w'/\dh D' m' r.1/\dw cfg C D m o w D' m' r.2 w':=by
 simp only[AF,ag,aA]at h;obtain⟨elem,he,hsl,size,hsz,dl,hdl,sl,hsl',cs,hcs,h⟩:=h;obtain⟨hfr,hfo⟩:=aao (P:=P) hi hs hcs;have hmin:L9 sl dl=Nat.min sl dl:=by
  grind [L9,eK]
 have ha1:∀x y:Value,(#[x,y]:Array Value)[1]? = some y:=λ_ _=>rfl;have ha0:∀x y:Value,(#[x,y]:Array Value)[0]? = some x:=λ_ _=>rfl;rcases vP hdl hsl with⟨rfl,rfl⟩|⟨id,off,c,rfl⟩
 . simp only[t_,ν]at h;subst h;refine⟨D,m,w,?_,by rw[gE];nofun,dw.h0 hi⟩;rw[hmin]at hfr ⊢;simp only[Builtin.copy_,hts,ha0,ha1,Sem.run_bind,a_ hT (pA he) w,Result.andThen_ok,aj,abO hsl',lC hT hsz w,hfr,Sem.run_pure,gE,Go.goInt]
 . have hdd:D id:=(hd (id,rI dl c) (by simp[aC])).1;simp only[t_,aA,ag,ν]at h;obtain⟨hone,o',hw,rfl⟩:=h;obtain⟨w',hw1,hw2⟩:=np (P:=P) hi hdd hfo hone hw;refine⟨D,m,w',?_,by rw[gE];nofun,hw2⟩;rw[hmin]at hfr ⊢;simp only[Builtin.copy_,hts,ha0,ha1,Sem.run_bind,a_ hT (pA he) w,Result.andThen_ok,aj,abO hsl',lC hT hsz w,hfr,hw1,Sem.run_pure,gE,Go.goInt]
omit hi in
theorem RE{ts:Array TypeId}{ty t:TypeId}{x:AV}(hts:ts[0]? = some t)(h:IX x (T.a0 t)=some v):(Builtin.len_ ts ty #[aj m x]).run P w=.ok (aj m v) w/\aC v=[]:=by
 have ha0:∀x:Value,(#[x]:Array Value)[0]? = some x:=λ_=>rfl;cases hu:T.a0 t with
 | none=>simp[hu,IX]at h
 | some d=>
   cases d<;>simp only[hu,IX,reduceCtorEq]at h
   . cases x<;>simp only[reduceCtorEq,ν]at h;subst h;rw[gE];refine⟨?_,by rfl⟩;simp only[Builtin.len_,hts,ha0,Sem.run_bind,a_ hT hu w,Result.andThen_ok,aj,Sem.run_pure,Go.goInt];rfl
   . cases x<;>simp only[reduceCtorEq,ν]at h<;>subst h<;>rw[gE]<;>refine⟨?_,by rfl⟩<;>
      simp only[Builtin.len_,hts,ha0,Sem.run_bind,a_ hT hu w,Result.andThen_ok,aj,Sem.run_pure,Go.goInt]<;>rfl
   . simp only[ν]at h;subst h;rw[gE];refine⟨?_,by rfl⟩;simp only[Builtin.len_,hts,ha0,Sem.run_bind,a_ hT hu w,Result.andThen_ok,aj,Sem.run_pure,Go.goInt]
omit hi in
theorem RO{ts:Array TypeId}{ty t:TypeId}{x:AV}(hts:ts[0]? = some t)(h:H6 x (T.a0 t)=some v):(Builtin.cap_ ts ty #[aj m x]).run P w=.ok (aj m v) w/\aC v=[]:=by
 have ha0:∀x:Value,(#[x]:Array Value)[0]? = some x:=λ_=>rfl;cases hu:T.a0 t with
 | none=>simp[hu,H6]at h
 | some d=>
   rw[hu]at h;cases d<;>simp only[H6,reduceCtorEq]at h;cases x<;>(try simp only[reduceCtorEq,ν]at h)
   . rename_i id off len c;cases c<;>simp only[reduceCtorEq,ν]at h;subst h;rw[gE];refine⟨?_,by rfl⟩;simp only[Builtin.cap_,hts,ha0,Sem.run_bind,a_ hT hu w,Result.andThen_ok,aj,Sem.run_pure,Go.goInt,TI]
   . subst h;rw[gE];refine⟨?_,by rfl⟩;simp only[Builtin.cap_,hts,ha0,Sem.run_bind,a_ hT hu w,Result.andThen_ok,aj,Sem.run_pure,Go.goInt]
omit hT hi in
theorem CV{k:IntKind}:∀{vs:List AV} {acc:Int} {v:AV},pc gY k acc vs=some v->((aD m vs).foldlM Builtin.min2 (.int k acc)).run P w=.ok (aj m v) w/\aC v=[]
 | [],acc,v,h=>by cases h;simp[aD,aj,aC]
 | x::vs,acc,v,h=>by
   cases x<;>simp only[pc,reduceCtorEq]at h;rename_i k' y;obtain⟨h1,h2⟩:=CV h;grind [gY,q5,aD,aj,Builtin.min2]
omit hT hi in
theorem DH{k:IntKind}:∀{vs:List AV} {acc:Int} {v:AV},pc kh k acc vs=some v->((aD m vs).foldlM Builtin.max2 (.int k acc)).run P w=.ok (aj m v) w/\aC v=[]
 | [],acc,v,h=>by cases h;simp[aD,aj,aC]
 | x::vs,acc,v,h=>by
   cases x<;>simp only[pc,reduceCtorEq]at h;rename_i k' y;obtain⟨h1,h2⟩:=DH h;grind [kh,q5,aD,aj,Builtin.max2]
theorem Fv{b:Builtin}{ts:Array TypeId}{ty:TypeId}{consts:Array Bool}{vs:List AV}(hv:fM D m vs)(h:gb T C o b ts.toList vs=some r):gO P cfg C D m o w (Go.builtin b ts ty consts (aD m vs).toArray) r:=by
 have ht:∀i,ts.toList[i]? = ts[i]? := λi=>Array.getElem?_toList;unfold gb at h;cases b<;>(try simp only[reduceCtorEq]at h)
 case append=>
  simp only[ag,ht]at h;obtain⟨t,h0,u,h1,h⟩:=h
  match vs,h,hv with
  | [s,x],h,hv=>
    have hs:=(fE.1 hv).1;have hx:=(fE.1 (fE.1 hv).2).1;obtain⟨D',m',w',hr,ho,he⟩:=IE (ty:=ty) hT hi h0 h1 hs hx h;exact⟨D',m',w',_,by simp_all [Go.builtin,aD],.inl rfl,ho,he⟩
  | [],h,_=>cases h
  | [_],h,_=>cases h
  | _::_::_::_,h,_=>cases h
 case cap=>
  simp only[bK,ag,ht]at h;obtain⟨⟨t,h0,h⟩,ho⟩:=h
  match vs,h with
  | [x],h=>
    obtain⟨h1,h2⟩:=RO (P:=P) (m:=m) (w:=w) (ty:=ty) hT h0 h;simp_all [gO.a0,Go.builtin,aD,ek]
  | [],h=>cases h
  | _::_::_,h=>cases h
 case copy=>
  simp only[ag,ht]at h;obtain⟨t,h0,h⟩:=h
  match vs,h,hv with
  | [s,x],h,hv=>
    have hs:=(fE.1 hv).1;have hx:=(fE.1 (fE.1 hv).2).1;obtain⟨D',m',w',hr,ho,he⟩:=Nv (ty:=ty) hT hi h0 hs hx h;exact⟨D',m',w',_,by simp_all [Go.builtin,aD],.inl rfl,ho,he⟩
  | [],h,_=>cases h
  | [_],h,_=>cases h
  | _::_::_::_,h,_=>cases h
 case len=>
  simp only[bK,ag,ht]at h;obtain⟨⟨t,h0,h⟩,ho⟩:=h
  match vs,h with
  | [x],h=>
    obtain⟨h1,h2⟩:=RE (P:=P) (m:=m) (w:=w) (ty:=ty) hT h0 h;simp_all [gO.a0,Go.builtin,aD,ek]
  | [],h=>cases h
  | _::_::_,h=>cases h
 case max=>
  simp only[bK]at h;obtain⟨h,ho⟩:=h
  match vs,h with
  | .a k x::rest,h=>
    obtain⟨h1,h2⟩:=DH (P:=P) (m:=m) (w:=w) h;simp_all [gO.a0,ek,Go.builtin,Builtin.max_,aD,aj]
  | [],h=>cases h
  | .b _::_,h=>cases h
  | .e _::_,h=>cases h
  | .h ..::_,h=>cases h
  | .o::_,h=>cases h
  | .c ..::_,h=>cases h
  | .f::_,h=>cases h
  | .i ..::_,h=>cases h
  | .l::_,h=>cases h
  | .m ..::_,h=>cases h
  | .k::_,h=>cases h
  | .g _::_,h=>cases h
  | .d _::_,h=>cases h
  | .q _::_,h=>cases h
  | .p::_,h=>cases h
 case min=>
  simp only[bK]at h;obtain⟨h,ho⟩:=h
  match vs,h with
  | .a k x::rest,h=>
    obtain⟨h1,h2⟩:=CV (P:=P) (m:=m) (w:=w) h;simp_all [gO.a0,ek,Go.builtin,Builtin.min_,aD,aj]
  | [],h=>cases h
  | .b _::_,h=>cases h
  | .e _::_,h=>cases h
  | .h ..::_,h=>cases h
  | .o::_,h=>cases h
  | .c ..::_,h=>cases h
  | .f::_,h=>cases h
  | .i ..::_,h=>cases h
  | .l::_,h=>cases h
  | .m ..::_,h=>cases h
  | .k::_,h=>cases h
  | .g _::_,h=>cases h
  | .d _::_,h=>cases h
  | .q _::_,h=>cases h
  | .p::_,h=>cases h
end
def cN:gD->List Nat
 | .b ids=>ids
 | _=>[]
def jV(P:Program)(f:FuncId)(args:Array Value)(w:World)(R:Value->World->Prop):Prop:=
 ((callFunc f args).run P w=.ok (.enter f args) w/\Calls P f args w λe w'=>∃v,e=.returned v/\R v w')\/∃v w',(callFunc f args).run P w=.ok (.value v) w'/\R v w'
theorem jV.a0{P:Program}{f:FuncId}{args:Array Value}{R R':Value->World->Prop}(h:jV P f args w R)(hr:∀v w',R v w'->R' v w'):jV P f args w R':=
 h.elim (λ⟨a,b⟩=>.inl ⟨a,b.mono λ_ _ ⟨v,e,r⟩=>⟨v,e,hr _ _ r⟩⟩) λ⟨v,w',a,b⟩=>.inr ⟨v,w',a,hr _ _ b⟩
def FR(x:Option Nat):Fence:={ Fence.wide with round:=x }
theorem GA{x:Option Nat}{P:Program}{f:FuncId}{args:Array Value}{R:Ending->World->Prop}(h:Calls P f args w R):CallsIn (FR x) n P f args w R:=
 (callsIn_wide.2 h:CallsIn Fence.wide n P f args w R)
def Qd(P:Program)(l:Nat)(args:Array Value)(w:World)(R:Value->World->Prop):Prop:=
 ∃fn tmps assign body,(Instr.yield l args).run P w=.ok (.round l fn tmps assign body) w/\RoundIn Fence.wide 0 P l fn tmps assign body w λe w'=>∃v,e=.returned v/\R v w'
def aa9(D:Nat->Prop)(w:World)(D':Nat->Prop)(m':Nat->bv)(w':World):Prop:=
 (∀k,k<w.heap.size->w'.heap[k]? = w.heap[k]?)/\∀i,D' i->¬D i->w.heap.size<=(m' i).a0
def jH(P:Program)(cfg:cL)(mu:Prop)(call:bg->FuncId->List AV->aB->Option (AV×aB)):Prop:=
 ∀C f args o r,call C f args o=some r->∀D m w,dX cfg D m C o w->fM D m args->
  jV P f (aD m args).toArray w λV w'=>∃D' m',V=aj m' r.1/\dh D' m' r.1/\dw cfg C D m o w D' m' r.2 w'/\(mu->hI args (cfg.b0 f)=[]->aa9 D w D' m' w')
def CN(P:Program)(cfg:cL)(mu:Prop)(rnd:bg->Nat->List AV->aB->Option (AV×aB)):Prop:=
 ∀C id args o r,rnd C id args o=some r->(mu->False)/\∀D m w,dX cfg D m C o w->D id->fM D m args->
  Qd P (m id).a0 (aD m args).toArray w λV w'=>∃D' m',V=aj m' r.1/\dh D' m' r.1/\dw cfg C D m o w D' m' r.2 w'
theorem acX{P:Program}{cfg:cL}{mu:Prop}:CN P cfg mu tP:=λC id args o r h=>by cases h
section
variable{P:Program}{T:fm}(hT:fH P T){cfg:cL}{C:bg}{D:Nat->Prop}{m:Nat->bv}{o:aB}{w:World}(hi:dX cfg D m C o w){ρ:Operand->Option AV}
include hT hi
theorem SY{ev:Operand->Value}(hρ:mE D m ρ ev){oo:Oper}(h:Eo T C ρ o oo.op=some r):vy P cfg C D m o w ev oo r:=by
 unfold Eo at h;cases ho:oo.op<;>rw[ho]at h<;>simp only[gW]at h
 case move=>grind [F_]
 case assign=>exact F_ hi hρ (.inr ho) h
 case pick=>grind [OL]
 case alloc=>grind [Mu]
 case box=>grind [R8]
 case build=>grind [KO]
 case buildSlice=>grind [zD]
 case insert=>grind [DM]
 case load=>grind [Ov]
 case store=>grind [Mg]
 case nilCheck=>grind [C8]
 case binOp=>grind [Q7]
 case unOp=>grind [VB]
 case convert=>grind [E4]
 case makeInterface=>grind [Kk]
 case makeFunc=>grind [OX]
 case makeMap=>grind [E3]
 case makeSlice=>grind [Z7]
 case slice=>grind [K_]
 case fieldAddr=>grind [BQ]
 case field=>grind [Mo]
 case indexAddr=>grind [Ba]
 case index=>grind [LK]
 case lookup=>grind [Ic]
 case mapUpdate=>exact DM hT hi hρ (.inr ho) h
 case range=>grind [MF]
 case next=>grind [Nj]
 case extract=>grind [E0]
 all_goals cases h
theorem rH{mu:Prop}{x:Option Nat}(hρ:mE D m ρ a.eval){call:bg->FuncId->List AV->aB->Option (AV×aB)}{rnd:bg->Nat->List AV->aB->Option (AV×aB)}(hc:jH P cfg mu call)(hrd:CN P cfg mu rnd)
 {oo:Oper} {r:AV×aB} (h:gQ T call rnd C ρ o oo.op=some r)
 {next:Act->World->Prop} {Q:Exit->Act->World->Prop} (hn:∀D' m' w',dh D' m' r.1->dw cfg C D m o w D' m' r.2 w'->(mu->eR oo.op=.a->cN (cX cfg ρ oo.op)=[]->aa9 D w D' m' w')->next (a.put oo.dst (aj m' r.1)) w'):oo.wpIn (FR x) 0 P a w next Q:=by
 have hnd:∀c,oo.op≠.defer c:=λc e=>by rw[e]at h;cases h
 have hsem:oo.semAt (FR x).round a.eval=execOp a.eval oo:=Oper.semAt_eq _ _ _ hnd;have hdep:∀k:Nat,(FR x).depth.isSome->1<=k:=λk hk=>by cases hk
 unfold Oper.wpIn;refine⟨λ_ _=>trivial,?_⟩;rw[hsem];have fin:eR oo.op≠.a->gO P cfg C D m o w (execOp a.eval oo) r->oo.uponIn (FR x) 0 P a next Q ((execOp a.eval oo).run P w):=by
  rintro hk ⟨D',m',w',nx,hr,hx,hv,he⟩;rw[hr];rcases hx with rfl|⟨rfl,hu⟩
  . exact hn D' m' w' hv he λ_ e=>absurd e hk
  . have:=hn D' m' w' hv he λ_ e=>absurd e hk;rw[hu,td]at this;exact this
 unfold gQ at h;split at h
 . rename_i c hoc;unfold sQ at h;cases hcal:c.callee with
   | value f=>
     simp only[hcal,ag]at h;obtain⟨fv,hf,vs,hvs,h⟩:=h;obtain⟨h1,h2⟩:=hρ f _ hf;obtain⟨h3,h4⟩:=ku hρ hvs;cases fv<;>simp only[G_,reduceCtorEq]at h
     . rename_i fid first captured
       have hok:fM D m (first++vs++captured):=by
        have:fM D m first/\fM D m captured:=⟨λi hm=>h2 i (by simp[aC,hm]),λi hm=>h2 i (by simp[aC,hm])⟩
        grind [pi]
       have hcs:=hc C fid _ o r h D m w hi hok;have hargs:(aD m first).toArray++(aD m vs).toArray++(aD m captured).toArray=(aD m (first++vs++captured)).toArray:=by
        simp[mF]
       have hex:∀nx w',(callFunc fid (aD m (first++vs++captured)).toArray).run P w=.ok nx w'->(execOp a.eval oo).run P w=.ok nx w':=by
        grind [execOp,resolve,aj,Deferred.ofValue,invoke]
       have hmu:∀D' m' w',(mu->hI (first++vs++captured) (cfg.b0 fid)=[]->aa9 D w D' m' w')->mu->eR oo.op=.a->cN (cX cfg ρ oo.op)=[]->aa9 D w D' m' w':=by
        intro D' m' w' hm hmu _ hf';refine hm hmu ?_;simp only[hoc,cX,hcal,vX,hf,hvs,GE]at hf';cases hna:hI (first++vs++captured) (cfg.b0 fid)with
        | nil=>rfl
        | cons x xs=>rw[hna]at hf';cases hf'
       rcases hcs with⟨hent,hcalls⟩|⟨v,w',hval,D',m',rfl,hv,he,hm⟩
       . rw[hex _ _ hent,Oper.uponIn_enter];refine⟨hdep _,CallsIn.mono (GA hcalls) ?_⟩;grind
       grind [Oper.uponIn_value]
     . rename_i id;obtain⟨hmf,hrr⟩:=hrd C id vs o r h;obtain⟨fn,tmps,assign,body,hy,hR⟩:=hrr D m w hi (h2 _ (by simp[aC];rfl)).1 h4;have hex:∀nx w',(Instr.yield (m id).a0 (aD m vs).toArray).run P w=.ok nx w'->(execOp a.eval oo).run P w=.ok nx w':=by
        grind [execOp,resolve,aj,Deferred.ofValue,invoke]
       rw[hex _ _ hy,Oper.uponIn_round];refine⟨hdep _,RoundIn.mono (F:=FR x) hR ?_⟩;rintro e w' ⟨v,rfl,D',m',rfl,hv,he⟩;exact hn D' m' w' hv he λhm=>(hmf hm).elim
   | builtin b=>
     simp only[hcal,ag]at h;obtain⟨vs,hvs,h⟩:=h;obtain⟨h3,h4⟩:=ku hρ hvs;refine fin (by rw[hoc];simp only[eR,hcal,PB];cases b<;>simp[P4]) ?_;obtain⟨D',m',w',nx,hr,hx⟩:=Fv (ty:=oo.type) (consts:=c.args.map λ|.const _=>true|_=>false) hT hi h4 h;refine⟨D',m',w',nx,?_,hx⟩;simp only[execOp,hoc,resolve,hcal,h3,Sem.run_bind,Sem.run_pure,Result.andThen_ok,invoke];exact hr
   | invoke x n=>simp[hcal]at h
 . rename_i hne;refine fin (λe=>?_) (SY hT hi hρ h);cases hop:oo.op<;>rw[hop]at e<;>simp only[eR,reduceCtorEq]at e;exact hne _ hop
end
theorem If{D:Nat->Prop}{m:Nat->bv}(ht:TR D m st a){ops:Array Oper}{oo:Oper}:Region.wanted oo (yielded ops a.tmps)=ll ops st.ts oo.guard:=by
 unfold Region.wanted ll;cases oo.guard with
 | none=>rfl
 | some jw=>
   obtain⟨j,want⟩:=jw;simp only[yielded];cases hj:ops[j]? with
   | none=>simp
   | some op=>
     cases hd:op.dst with
     | none=>simp[hd,rn]
     | some t=>
       have hat:=ht.c0 t;simp only[Option.bind_some,hd,rn];cases hg:a.tmps[t]? with
       | none=>
         have:a.tmps.getD t undef=undef:=by
          grind
         rw[this]at hat;cases hv:st.ts.b0 t<;>rw[hv]at hat<;>simp[aj,undef]at hat<;>first|rfl|(subst hat;rfl)
       | some v=>
         have:a.tmps.getD t undef=v:=by simp[hg]
         rw[this]at hat;subst hat;cases hv:st.ts.b0 t with
         | j v=>simp only[aj,yS];cases v<;>simp[B0,ru]
         | _=>simp[aj,yS,ru]
theorem Ix{cfg:cL}{D:Nat->Prop}{m:Nat->bv}(hi:dX cfg D m C st.o w)(ht:TR D m st a):mE D m (fj cfg.G st.ts) a.eval:=λ_ _ h=>mM hi ht h
section
variable{P:Program}{T:fm}(hT:fH P T){cfg:cL}{C:bg}{mu:Prop}{call:bg->FuncId->List AV->aB->Option (AV×aB)}{rnd:bg->Nat->List AV->aB->Option (AV×aB)}(hc:jH P cfg mu call)(hrd:CN P cfg mu rnd)
include hT hc hrd
theorem FA{ops:Array Oper}{Q:Exit->Act->World->Prop}{x:Option Nat}:∀(l:List Oper) (k:Nat),ops.toList.drop k=l->∀{D:Nat->Prop} {m:Nat->bv} {st st':St} {a:Act} {w:World},dX cfg D m C st.o w->TR D m st a->CJ T cfg call rnd C ops l st=some st'->
 (∀D' m' a' w',TR D' m' st' a'->dw cfg C D m st.o w D' m' st'.o w'->Q .normal a' w')->wpOpsIn (FR x) 0 P ops Q (List.range' k l.length) a w
 | [],k,hl,D,m,st,st',a,w,hi,ht,h,hq=>by
   cases h;exact hq D m a w ht (dw.h0 hi)
 | oo::rest,k,hl,D,m,st,st',a,w,hi,ht,h,hq=>by
   have hk:ops[k]? = some oo:=by
    have:(ops.toList.drop k)[0]? = some oo:=η
    grind
   have hrest:ops.toList.drop (k+1)=rest:=by
    rw[<-List.drop_drop,hl];rfl
   simp only[CJ,ag]at h;obtain⟨st1,hs,h⟩:=h;simp only[List.length_cons,List.range'_succ,wpOpsIn,hk];rw[If ht];cases hw:ll ops st.ts oo.guard with
   | true=>
     rw[hw,cond_true,ag]at hs;obtain⟨r,hr,hp⟩:=hs;rw[if_pos rfl];refine rH hT hi (Ix hi ht) hc hrd hr λD' m' w' hv he _=>?_;obtain⟨ht',ho,_⟩:=(ht.g0 he.g0 he.a0).h0 hp hv;have hi':dX cfg D' m' C st1.o w':=by rw[ho];exact he.b0
     refine FA rest (k+1) hrest hi' ht' h λD2 m2 a2 w2 ht2 he2=>hq D2 m2 a2 w2 ht2 ?_;rw[ho]at he2;exact he.d0 he2
   | false=>
     rw[hw,cond_false]at hs;rw[if_neg θ];refine⟨λ_ _=>trivial,?_⟩;obtain⟨ht',ho,_⟩:=ht.h0 hs iy;rw[td]at ht';have hi':dX cfg D m C st1.o w:=η
     refine FA rest (k+1) hrest hi' ht' h λD2 m2 a2 w2 ht2 he2=>hq D2 m2 a2 w2 ht2 ?_;grind
end
theorem H7{α:Type}(k:Nat->α)(n:Nat):Ly k n=k n:=by cases n<;>rfl
theorem z7{α:Type}(k:List Nat->α)(l:List Nat):EH k l=k l:=by cases l<;>rfl
theorem kn{acc:List Nat}{i:Nat}(h:(lN acc n j).testBit i):j<n:=by
 grind [lN,aU]
theorem GV{acc:List Nat}{n i:Nat}:∀{es:List Edge} {s:Nat},(Wb acc n es s).testBit i->s.testBit i\/∃e∈es,Region.binds .any e/\(e.on=i\/(lN acc n e.on).testBit i=true)
 | [],s,h=>.inl h
 | e::es,s,h=>by
   rw[Wb]at h;rcases GV h with h|⟨e',he,h1,h2⟩<;>grind
theorem Ii(o:Oper)(prev:List Oper):qN (o::prev)=Wb (qN prev) prev.length o.after.toList 0::qN prev:=by
 rw[qN,z7,H7]
theorem Vp{v:Nat}{acc:List Nat}:lN (v::acc) (n+1) j=if j=n then v else lN acc n j:=by
 grind [lN,ou]
theorem Eh{i:Nat}:∀{R:List Oper} {j:Nat},(lN (qN R) R.length j).testBit i->
 ∃o,R[R.length-1-j]? = some o/\∃e∈o.after.toList,Region.binds .any e/\(e.on=i\/e.on<j/\(lN (qN R) R.length e.on).testBit i=true)
 | [],j,h=>by have:=kn h;grind
 | o::prev,j,h=>by
   have hj:=kn h;rw[Ii]at h ⊢;rw[List.length_cons]at h hj ⊢;rw[Vp]at h;by_cases e:j=prev.length
   . rw[if_pos e]at h;rcases GV h with h|⟨e',he,h1,h2⟩
     . grind
     . refine⟨o,by grind,e',he,h1,?_⟩;rcases h2 with h2|h2
       . omega
       . have:=kn h2;grind [Vp]
   . rw[if_neg e]at h;obtain⟨o',ho,e',he,h1,h2⟩:=Eh h;grind [Vp]
def ly(ops:Array Oper)(E:Nat->Prop)(j:Nat):Prop:=∀o,ops[j]? = some o->∀e∈o.after.toList,Region.binds .any e->E e.on
theorem A5{ops:Array Oper}{E:Nat->Prop}(hd:∀j,E j->ly ops E j){i:Nat}:∀j,ly ops E j->zY (qN ops.toList.reverse) ops.size i j->E i:=by
 intro j;induction j using Nat.strongRecOn with
 | ind j ih=>
   intro hj hb;have hl:ops.toList.reverse.length=ops.size:=θ
   unfold zY at hb;rw[<-hl]at hb;obtain⟨o,ho,e,he,h1,h2⟩:=Eh hb;have hjl:=kn hb;rw[hl]at hjl ho;have hget:ops[j]? = some o:=by
    grind
   have hon:=hj o hget e he h1;rcases h2 with h2|⟨h2,h3⟩
   . grind
   . rw[hl]at h3;exact ih e.on h2 (hd _ hon) h3
theorem adp{ρ:Operand->Option AV}:∀{xs:List Operand} {vs:List AV},gz ρ xs=some vs->∀k:Nat,(xs[k]?).bind ρ=vs[k]?
 | [],vs,h,k=>by cases h;simp
 | x::xs,vs,h,k=>by
   simp only[gz,ag,ν]at h;obtain⟨v,hv,vs',hvs,rfl⟩:=h;cases k with
   | zero=>grind
   | succ k=>simpa using adp hvs k
structure fh(C:bg)(o o':aB)(ids:List Nat):Prop where
 c0:o.n<=o'.n
 le:o'.le.map (·.1)=o.le.map (·.1)
 h0:o'.os.length=o'.n
 g0:(∀id∈ids,id<C.lo+o.n)->∀i,i<C.lo+o.n->i∉ids->get C o' i=get C o i
theorem fh.a0{o:aB}{ids:List Nat}(h:o.os.length=o.n):fh C o o ids:=⟨Nat.le_refl _,rfl,h,λ_ _ _ _=>rfl⟩
theorem fh.b0{o:aB}{ids:List Nat}(h:o.os.length=o.n):fh C o (o.a0 x) ids:=
 ⟨by simp[aB.a0],rfl,by simp[aB.a0,h],λ_ i hi _=>by grind [xM]⟩
theorem Jb{o:aB}(hl:o.os.length=o.n)(hi:id<C.lo+o.n)(hj:j<C.lo+o.n)(hn:j≠id):get C (kV C o id x) j=get C o j:=by
 unfold get gB kV;cases hb:Nat.ble C.lo id with
 | true=>
   have h1:=eK.1 hb;simp only[cond_true];cases hc:Nat.ble C.lo j with
   | true=>
     grind [eK,aB.c0]
   | false=>rfl
 | false=>
   simp only[cond_false];cases hc:Nat.ble C.lo j with
   | true=>rfl
   | false=>
     grind [qD]
theorem fh.d0{o:aB}{ids:List Nat}(h:o.os.length=o.n)(hm:id∈ids):fh C o (kV C o id x) ids:=
 ⟨Nat.le_of_eq vJ.symm,qM,aa4 h,λhb i hi hn=>Jb h (hb id hm) hi (λe=>hn (e▸hm))⟩
theorem fh.f0{o o1 o2:aB}{ids:List Nat}(h:fh C o o1 ids)(k:fh C o1 o2 ids):fh C o o2 ids:=
 ⟨Nat.le_trans h.c0 k.c0,k.le.trans h.le,k.h0,λhb i hi hn=>by
  have:=h.c0;rw[k.g0 (λid hm=>by grind) i δ hn,h.g0 hb i hi hn]⟩
theorem AH{n:Nat}:∀{l:List Nat},nP n l=true↔∀x∈l,x<n
 | []=>by simp[nP]
 | x::l=>by simp[nP,AH (l:=l),aU]
theorem Fs{f:gD}:xU n f=true↔∀x∈cN f,x<n:=by
 cases f<;>simp[xU,cN,AH]
theorem lx{o:aB}{vs:List AV}{ids:List Nat}(h:jO C o id off vs=some o')(hl:o.os.length=o.n)(hm:id∈ids):fh C o o' ids:=by
 simp only[jO,ag,ν]at h;obtain⟨x,_,x',_,rfl⟩:=h;exact .d0 hl hm
theorem zB{o:aB}{size:Nat}{new:List AV}{ids:List Nat}(h:jt C o size n new s=some r)(hl:o.os.length=o.n)
 (hm:∀id,cW s=some id->id∈ids):fh C o r.2 ids:=by
 cases s<;>simp only[jt,reduceCtorEq,ν]at h
 case c id off len c=>
  have h1:=hm id rfl;cases c with
  | a c=>
    simp only[appendCap,lB]at h;cases hb:Nat.ble (len+n) c with
    | true=>
      grind [ag,lx]
    | false=>
      simp only[hb,cond_false,ag,ν]at h;obtain⟨old,hw,rfl⟩:=h;exact .b0 hl
  | b k=>
    simp only[appendCap,UR,aA,ag,ν]at h;obtain⟨_,x,_,cs,_,rfl⟩:=h;exact(fh.d0 hl h1).f0 (.b0 (aa4 hl))
 case f=>subst h;exact .b0 hl
def b8(cfg:cL)(call:bg->FuncId->List AV->aB->Option (AV×aB)):Prop:=
 ∀C f args o r,call C f args o=some r->o.os.length=o.n->fh C o r.2 (hI args (cfg.b0 f))
theorem co{o:aB}{x:Option AV}{ids:List Nat}(hl:o.os.length=o.n)(h:gS o x=some r):fh C o r.2 ids:=by
 rw[(bK.1 h).2];exact .a0 hl
theorem n_{x:Option Nat}(h:x=some id):cN (acH x)=[id]:=by subst h;rfl
section
variable{T:fm}{cfg:cL}{C:bg}{o:aB}{ρ:Operand->Option AV}
theorem I8(h:Eo T C ρ o op=some r)(hl:o.os.length=o.n):fh C o r.2 (cN (cX cfg ρ op)):=by
 unfold Eo at h;cases op<;>simp only[gW]at h
 case move=>exact co hl h
 case assign=>exact co hl h
 case pick=>exact co hl h
 case build=>exact co hl h
 case load=>exact co hl h
 case nilCheck=>exact co hl h
 case binOp=>exact co hl h
 case unOp=>exact co hl h
 case makeInterface=>exact co hl h
 case makeFunc=>exact co hl h
 case slice=>exact co hl h
 case fieldAddr=>exact co hl h
 case field=>exact co hl h
 case indexAddr=>exact co hl h
 case index=>exact co hl h
 case lookup=>exact co hl h
 case extract=>exact co hl h
 case alloc=>
  simp only[pq,ag,lG,aA,ν]at h;obtain⟨z,_,_,rfl⟩:=h;exact .b0 hl
 case box=>
  simp only[xG,ag,lG,aA,ν]at h;obtain⟨z,_,_,rfl⟩:=h;exact .b0 hl
 case buildSlice=>
  simp only[qa,iq,ag,aA,ν]at h;obtain⟨_,_,_,_,_,_,_,_,_,_,_,_,rfl⟩:=h;exact .b0 hl
 case makeMap=>
  simp only[abo,aA,ν]at h;obtain⟨_,rfl⟩:=h;exact .b0 hl
 case makeSlice=>
  simp only[ik,na,ag,aA,ν]at h;obtain⟨_,_,_,_,_,_,_,_,_,_,_,_,_,_,_,rfl⟩:=h;exact .b0 hl
 case range=>
  simp only[rJ,ag]at h;obtain⟨v,_,h⟩:=h;cases v<;>simp only[Fe,reduceCtorEq,aA,ν]at h;obtain⟨_,rfl⟩:=h;exact .b0 hl
 case convert=>
  simp only[ip,ag]at h;obtain⟨v,_,h⟩:=h;cases v<;>simp only[jA,reduceCtorEq,aA]at h
  . exact co hl h.2
  . obtain⟨_,h⟩:=h;unfold o8 at h;split at h
    . cases h;exact .a0 hl
    . simp only[aA,ν]at h;obtain⟨_,rfl⟩:=h;exact .b0 hl
    grind
  . exact co hl h
 case store t a x=>
  simp only[oY,ag,ν]at h;obtain⟨p,hp,v,hv,o',hs,rfl⟩:=h;cases p<;>simp only[yO,reduceCtorEq,ag,aA]at hs;rename_i id off;obtain⟨_,_,_,hs⟩:=hs;have e:cN (cX cfg ρ (.store t a x))=[id]:=n_ (by rw[hp];rfl);grind [lx]
 case insert t m k x=>
  simp only[aay,ag]at h;obtain⟨p,hp,kv,hk,v,hv,h⟩:=h;simp only[BC,ag,aA]at h;obtain⟨_,_,_,h⟩:=h;cases p<;>simp only[wV,reduceCtorEq,ag]at h;rename_i id;obtain⟨_,_,es,_,fr,_,h⟩:=h;have e:cN (cX cfg ρ (.insert t m k x))=[id]:=n_ (by rw[hp];rfl);rw[e];cases fr<;>simp only[ag,ν]at h
  . subst h;exact .d0 hl θ
  . obtain⟨_,_,rfl⟩:=h;exact .d0 hl θ
 case mapUpdate t m k x=>
  simp only[aay,ag]at h;obtain⟨p,hp,kv,hk,v,hv,h⟩:=h;simp only[BC,ag,aA]at h;obtain⟨_,_,_,h⟩:=h;cases p<;>simp only[wV,reduceCtorEq,ag]at h;rename_i id;obtain⟨_,_,es,_,fr,_,h⟩:=h;have e:cN (cX cfg ρ (.mapUpdate t m k x))=[id]:=n_ (by rw[hp];rfl);rw[e];cases fr<;>simp only[ag,ν]at h
  . subst h;exact .d0 hl θ
  . obtain⟨_,_,rfl⟩:=h;exact .d0 hl θ
 case next it s=>
  simp only[qS,ag,aA]at h;obtain⟨_,p,hp,h⟩:=h;unfold DN at h;split at h
  . rename_i id;simp only[ag]at h;obtain⟨x,_,h⟩:=h;have e:cN (cX cfg ρ (.next it s))=[id]:=n_ (by rw[hp];rfl);rw[e];cases x<;>simp only[ace,reduceCtorEq,ν]at h;subst h;unfold Dl;cases aS _ _ with
    | true=>exact .d0 hl θ
    | false=>exact .a0 hl
  grind
 all_goals cases h
theorem qT{call:bg->FuncId->List AV->aB->Option (AV×aB)}(hc:b8 cfg call)(h:gQ T call tP C ρ o op=some r)(hl:o.os.length=o.n) :
 fh C o r.2 (cN (cX cfg ρ op)):=by
 unfold gQ at h;split at h
 . rename_i c;unfold sQ at h;cases hcal:c.callee with
   | value f=>
     simp only[hcal,ag]at h;obtain⟨fv,hf,vs,hvs,h⟩:=h;cases fv<;>simp only[G_,tP,reduceCtorEq]at h;rename_i fid first captured
     have e:cN (cX cfg ρ (.call c))=hI (first++vs++captured) (cfg.b0 fid):=by
      simp only[cX,hcal,vX,hf,hvs,GE];cases hI (first++vs++captured) (cfg.b0 fid)<;>rfl
     rw[e];exact hc C fid _ o r h hl
   | builtin b=>
     simp only[hcal,ag]at h;obtain⟨vs,hvs,h⟩:=h;have h0:=adp hvs 0;have hn:∀x y,vs=[x,y]->∀id,cW x=some id->cN (acH (ob c.args.toList[0]? λx=>ob (ρ x) cW))=[id]:=by
      grind [n_,ob]
     unfold gb at h;cases b<;>simp only[reduceCtorEq]at h
     case len=>exact co hl h
     case cap=>exact co hl h
     case min=>exact co hl h
     case max=>exact co hl h
     case append=>
      have e:cX cfg ρ (.call c)=acH (ob c.args.toList[0]? λx=>ob (ρ x) cW):=by grind [cX,vX,G6]
      rw[e];simp only[ag]at h;obtain⟨t,_,u,_,h⟩:=h;unfold two at h;split at h
      . rename_i s x;simp only[pt,ag,aA]at h;obtain⟨_,_,_,_,_,_,_,n,_,_,_,h⟩:=h;cases hz:Nat.beq n 0 with
        | true=>
          simp only[hz,cond_true,aA,ν]at h;obtain⟨_,rfl⟩:=h;exact .a0 hl
        | false=>
          grind [ag,aA,zB]
      grind
     case copy=>
      have e:cX cfg ρ (.call c)=acH (ob c.args.toList[0]? λx=>ob (ρ x) cW):=by grind [cX,vX,G6]
      rw[e];simp only[ag]at h;obtain⟨t,_,h⟩:=h;unfold two at h;split at h
      . rename_i d s;simp only[AF,ag,aA]at h;obtain⟨_,_,_,_,_,_,_,_,_,_,_,h⟩:=h;cases d with
        | c id off len c'=>
          simp only[t_,ag,aA,ν]at h;obtain⟨_,o',hw,rfl⟩:=h;rw[hn _ s rfl id rfl];grind [lx]
        | f=>
          simp only[t_,ν]at h;subst h;exact .a0 hl
        | _=>cases h
      grind
   | invoke x n=>grind
 grind [I8]
end
theorem gI{ρ ρ':Operand->Option AV}:∀{xs:List Operand},(∀x∈xs,ρ x=ρ' x)->gz ρ xs=gz ρ' xs
 | [],_=>rfl
 | x::xs,h=>by
   simp only[gz];rw[h x List.mem_cons_self,gI λy hy=>h y (List.mem_cons_of_mem _ hy)]
theorem mO{ρ ρ':Operand->Option AV}:∀{xs:List (Nat×Operand)},(∀x∈xs.map (·.2),ρ x=ρ' x)->oA ρ xs=oA ρ' xs
 | [],_=>rfl
 | x::xs,h=>by
   simp only[oA];rw[h x.2 θ,mO λy hy=>h y η]
theorem qB{ρ ρ':Operand->Option AV}{x:Option Operand}(h:∀y∈x.toArray.toList,ρ y=ρ' y):adk ρ x=adk ρ' x:=by
 cases x<;>grind [adk]
section
variable{T:fm}{cfg:cL}{C:bg}{o:aB}{ρ ρ':Operand->Option AV}
theorem HZ(h:∀x∈op.operands.toList,ρ x=ρ' x):Eo T C ρ o op=Eo T C ρ' o op:=by
 unfold Eo;cases op<;>simp only[gW]
 case move=>grind [th,Op.operands]
 case assign=>grind [th,Op.operands]
 case pick c a b=>grind [xT,Op.operands]
 case alloc=>rfl
 case box=>grind [xG,Op.operands]
 case build t ps=>grind [ww,Z4,mO,Op.operands]
 case buildSlice t l ps=>grind [qa,iq,mO,Op.operands]
 case load=>grind [tN,Op.operands]
 case store t a x=>grind [oY,Op.operands]
 case nilCheck=>grind [mW,Op.operands]
 case binOp op t x y u=>grind [DX,Op.operands]
 case unOp=>grind [Kp,Op.operands]
 case convert=>grind [ip,Op.operands]
 case makeInterface=>grind [wz,Op.operands]
 case makeFunc f a b=>
  simp only[Ca];cases f<;>grind [tT,gI,Op.operands]
 case makeMap=>rfl
 case insert t m k x=>grind [aay,Op.operands]
 case mapUpdate t m k x=>grind [aay,Op.operands]
 case makeSlice t l c=>grind [ik,Op.operands]
 case slice t x lo hi mx=>
  grind [sg,Op.operands,qB]
 case fieldAddr=>grind [aaC,Op.operands]
 case field=>grind [wB,Op.operands]
 case indexAddr t x i=>grind [jq,Op.operands]
 case index t x i=>grind [rz,Op.operands]
 case lookup t x i k=>grind [oe,Op.operands]
 case range=>grind [rJ,Op.operands]
 case next=>grind [qS,Op.operands]
 case extract=>grind [pG,Op.operands]
 all_goals rfl
theorem Dd{call:bg->FuncId->List AV->aB->Option (AV×aB)}(h:∀x∈op.operands.toList,ρ x=ρ' x):gQ T call tP C ρ o op=gQ T call tP C ρ' o op:=by
 unfold gQ;split<;>grind [sQ,Op.operands,Call.operands,gI,HZ]
theorem aeq(h:∀x∈op.operands.toList,ρ x=ρ' x):cX cfg ρ op=cX cfg ρ' op:=by
 cases op<;>simp only[cX,eR,Ms]
 case load=>grind [Op.operands]
 case store t a x=>grind [Op.operands]
 case insert t m k x=>grind [Op.operands]
 case mapUpdate t m k x=>grind [Op.operands]
 case next=>grind [Op.operands]
 case call c=>
  cases hcal:c.callee with
  | value f=>
    grind [vX,Op.operands,Call.operands,gI]
  | builtin b=>
    have:(c.args.toList[0]?.elim none λx=>(ρ x).bind cW)=(c.args.toList[0]?.elim none λx=>(ρ' x).bind cW):=by
     cases hx:c.args.toList[0]? <;> grind [Op.operands,Call.operands]
    have:(ob c.args.toList[0]? λx=>ob (ρ x) cW)=(ob c.args.toList[0]? λx=>ob (ρ' x) cW):=by
     cases hx:c.args.toList[0]? <;> grind [ob,Op.operands,Call.operands]
    simp_all [vX,G6]
  | invoke x n=>rfl
end
def iF(l:List cD)(o:aB):aB:=⟨o.n+l.length,l++o.os,o.le⟩
def Jk(o o':aB)(r:AV×aB)(y:Option (AV×aB)):Prop:=∃l,r.2=iF l o/\y=some (r.1,iF l o')
theorem cG{o:aB}{x y:Option AV}(h:gS o x=some r)(e:y=x):Jk o o' r (gS o' y):=by
 obtain⟨h1,h2⟩:=bK.1 h;subst e;exact⟨[],h2,by rw[h1];rfl⟩
theorem tv{o:aB}:Jk o o' (v,o.a0 x) (some (v,o'.a0 x)):=⟨[x],rfl,rfl⟩
theorem ab7{α:Type}{b:Bool}{x:Option α}(h:b):ok b x=x:=by subst h;rfl
def acu:De->Bool
 | .b|.e|.c|.d=>true
 | _=>false
def KX:De->Bool
 | .c|.d=>true
 | _=>false
section
variable{T:fm}{cfg:cL}{C C':bg}{o o':aB}{ρ:Operand->Option AV}
theorem vT(hn:C'.lo+o'.n=C.lo+o.n)(h:lG C o v=some r):Jk o o' r (lG C' o' v):=by
 grind [lG,aA,aB.b0,tv]
theorem Fo(hg:get C' o' id=get C o id):mA C' o' id off n=mA C o id off n:=by
 simp only[mA,hg]
theorem Kw(hk:acu (eR op))(h:Eo T C ρ o op=some r)(hn:C'.lo+o'.n=C.lo+o.n)
 (hg:KX (eR op)->∀x∈op.operands.toList,∀v id,ρ x=some v->cW v=some id->get C' o' id=get C o id):Jk o o' r (Eo T C' ρ o' op):=by
 unfold Eo at h ⊢;cases op<;>simp only[gW]at h ⊢
 case move=>exact cG h rfl
 case assign=>exact cG h rfl
 case pick=>exact cG h rfl
 case build=>exact cG h rfl
 case nilCheck=>exact cG h rfl
 case binOp=>exact cG h rfl
 case unOp=>exact cG h rfl
 case makeInterface=>exact cG h rfl
 case makeFunc=>exact cG h rfl
 case slice=>exact cG h rfl
 case fieldAddr=>exact cG h rfl
 case field=>exact cG h rfl
 case indexAddr=>exact cG h rfl
 case index=>exact cG h rfl
 case extract=>exact cG h rfl
 case load t a=>
  refine cG h ?_;obtain⟨h1,_⟩:=bK.1 h;simp only[ag]at h1;obtain⟨v,hv,h1⟩:=h1;rw[hv];cases v<;>simp only[ab2,reduceCtorEq]at h1;simp only[ob,ab2];rw[hg rfl a (by simp[Op.operands]) _ _ hv rfl]
 case lookup t a k ok'=>
  refine cG h ?_;obtain⟨h1,_⟩:=bK.1 h;simp only[ag]at h1;obtain⟨v,hv,kv,hkv,h1⟩:=h1;rw[hv,hkv];simp only[C_,ag,aA]at h1;obtain⟨_,_,_,h1⟩:=h1;cases v<;>simp only[Xf,reduceCtorEq]at h1;simp only[ob,C_,Xf];rw[hg rfl a (by simp[Op.operands]) _ _ hv rfl]
 case alloc t=>
  simp only[pq,ag]at h;obtain⟨z,hz,h⟩:=h;simp only[pq,hz,ob];exact vT hn h
 case box t x=>
  simp only[xG,ag]at h;obtain⟨z,hz,h⟩:=h;simp only[xG,hz,ob];exact vT hn h
 case buildSlice t len ps=>
  simp only[qa,iq,ag,aA,ν]at h;obtain⟨e,he,n,hsz,z,hz,ps',hps,h1,cs,hcs,h2,rfl⟩:=h;simp only[qa,iq,he,hsz,hz,hps,ob,ab7 h1,hcs,ab7 h2,aB.b0,hn];exact tv
 case convert s d x=>
  simp only[ip,ag]at h;obtain⟨v,hv,h⟩:=h;simp only[ip,hv,ob];cases v<;>simp only[jA,reduceCtorEq,aA]at h ⊢
  . rw[ab7 h.1];exact cG h.2 rfl
  . obtain⟨h1,h⟩:=h;rw[ab7 h1];unfold o8 at h ⊢;split at h
    . cases h;exact⟨[],rfl,rfl⟩
    . simp only[aA,ν]at h;obtain⟨h2,rfl⟩:=h;rw[ab7 h2,aB.b0,aB.b0,hn];exact tv
    . cases h
  . rename_i id off len c;refine cG h ?_;have hgi:=hg rfl x (by simp[Op.operands]) _ _ hv rfl;simp only[po,Fo hgi]
 all_goals first|cases h|cases hk
theorem EE{call call':bg->FuncId->List AV->aB->Option (AV×aB)}(hk:acu (eR op))(h:gQ T call tP C ρ o op=some r)(hn:C'.lo+o'.n=C.lo+o.n)
 (hg:KX (eR op)->∀x∈op.operands.toList,∀v id,ρ x=some v->cW v=some id->get C' o' id=get C o id):Jk o o' r (gQ T call' tP C' ρ o' op):=by
 unfold gQ at h ⊢;split at h
 . rename_i c;unfold sQ at h ⊢;simp only[eR]at hk;cases hcal:c.callee with
   | value f=>rw[hcal]at hk;cases hk
   | invoke x n=>grind
   | builtin b=>
     simp only[hcal,ag]at h ⊢;obtain⟨vs,hvs,h⟩:=h;rw[hvs];simp only[ob];rw[hcal]at hk;unfold gb at h ⊢;cases b<;>first|exact cG h rfl|cases hk
 grind [Kw]
end
end Go.Ev
