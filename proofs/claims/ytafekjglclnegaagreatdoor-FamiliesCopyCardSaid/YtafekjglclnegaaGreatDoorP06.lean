import Derived.Laws.IdiomStrings
import Derived.Test.YtafekjglclnegaaGreatDoorP05
set_option linter.all false
namespace Go.Ev
open Go Go.RowKit
def fo(P:Program)(cfg:cx)(C:bg)(D:Nat->Prop)(m:Nat->bo)(o:aC)(w:World)(s:Sem Next)(r:AV×aC):Prop:=
 ∃D' m' w' nx,s.run P w=.ok nx w'/\(nx=.value (aj m' r.1)\/nx=.skip/\r.1=bj)/\cY D' m' r.1/\dk cfg C D m o w D' m' r.2 w'
theorem fo.pure{P:Program}{cfg:cx}{C:bg}{D:Nat->Prop}{m:Nat->bo}{o:aC}{w:World}{s:Sem Next}{r:AV×aC}(hi:dQ cfg D m C o w)(ho:r.2=o)(h:s.run P w=.ok (.value (aj m r.1)) w)(hv:cY D m r.1):fo P cfg C D m o w s r:=
 ⟨D,m,w,_,h,.inl rfl,hv,by rw[ho];exact dk.refl hi⟩
def jE(D:Nat->Prop)(m:Nat->bo)(ρ:Operand->Option AV)(ev:Operand->Value):Prop:=∀x v,ρ x=some v->ev x=aj m v/\cY D m v
theorem pK{D:Nat->Prop}{m:Nat->bo}{ρ:Operand->Option AV}{ev:Operand->Value}(hρ:jE D m ρ ev):∀{xs:List Operand} {vs:List AV},fh ρ xs=some vs->xs.map ev=ar m vs/\eI D m vs
 | [],vs,h=>by cases h;exact⟨by simp[ar],eL⟩
 | x::xs,vs,h=>by
   simp only[fh,ag,Option.some.injEq]at h
   obtain⟨v,hv,vs',hvs,rfl⟩:=h
   obtain⟨h1,h2⟩:=hρ x v hv
   obtain⟨h3,h4⟩:=pK hρ hvs
   exact⟨by simp[ar,h1,h3],cq.2 ⟨h2,h4⟩⟩
theorem iZ{D:Nat->Prop}{m:Nat->bo}{ρ:Operand->Option AV}{ev:Operand->Value}(hρ:jE D m ρ ev){xs:Array Operand}{vs:List AV}(h:fh ρ xs.toList=some vs):xs.map ev=(ar m vs).toArray/\eI D m vs:=by
 obtain⟨h1,h2⟩:=pK hρ h
 refine⟨?_,h2⟩
 apply Array.toList_inj.1
 simpa using h1
theorem ld{D:Nat->Prop}{m:Nat->bo}{ρ:Operand->Option AV}{ev:Operand->Value}(hρ:jE D m ρ ev):∀{xs:List (Nat×Operand)} {ps:List (Nat×AV)},kG ρ xs=some ps->xs.map (λp=>(p.1,ev p.2))=ps.map (λp=>(p.1,aj m p.2))/\∀p∈ps,cY D m p.2
 | [],ps,h=>by cases h;simp
 | x::xs,ps,h=>by
   simp only[kG,ag,Option.some.injEq]at h
   obtain⟨v,hv,ps',hps,rfl⟩:=h
   obtain⟨h1,h2⟩:=hρ _ v hv
   obtain⟨h3,h4⟩:=ld hρ hps
   refine⟨by simp[h1,h3],λp hp=>?_⟩
   rcases List.mem_cons.1 hp with rfl|hp
   · exact h2
   · grind
theorem po{D:Nat->Prop}{m:Nat->bo}{ρ:Operand->Option AV}{ev:Operand->Value}(hρ:jE D m ρ ev){x:Option Operand}{v:Option AV}(h:rd ρ x=some v):x.map ev=v.map (aj m):=by
 cases x with
 | none=>cases h;rfl
 | some x=>
   simp only[rd,ag,Option.some.injEq]at h
   obtain⟨u,hu,rfl⟩:=h
   simp[(hρ x u hu).1]
theorem oe{D:Nat->Prop}{m:Nat->bo}{v:AV}(h:aq v=[]):eI D m (bP v):=lE (bQ h)
section
variable{P:Program}{T:eA}(hT:eE P T){cfg:cx}{C:bg}{D:Nat->Prop}{m:Nat->bo}{o:aC}{w:World}(hi:dQ cfg D m C o w){ρ:Operand->Option AV}{ev:Operand->Value}(hρ:jE D m ρ ev)
include hT hi hρ
theorem rq:∀{fs:List Field} {pl:List (Nat×Nat)},qt T fs=some pl->∀w,(fs.mapM (λf=>(do pure (f.offset,<-sizeOf f.type):Sem (Nat×Nat)))).run P w=.ok pl w
 | [],pl,h,w=>by cases h;simp
 | f::fs,pl,h,w=>by
   simp only[qt,ag,Option.some.injEq]at h
   obtain⟨n,hn,r,hr,rfl⟩:=h
   simp only[List.mapM_cons,Sem.run_bind,dU hT hn w,Result.andThen_ok,Sem.run_pure,rq hr w]
theorem Dl{t:TypeId}{parts:Array (Nat×Operand)}{v:AV}(h:wt T ρ t parts.toList=some v):(Instr.build t (parts.map λ(i,x)=>(i,ev x))).run P w=.ok (aj m v) w/\cY D m v:=by
 simp only[wt,ag]at h
 obtain⟨z,hz,ps,hps,h⟩:=h
 obtain⟨hzr,hz0⟩:=jO hT (m:=m) hz w
 obtain⟨hp1,hp2⟩:=ld hρ hps
 have hparts:(parts.map λ(x:Nat×Operand)=>(x.1,ev x.2)).toList=ps.map λp=>(p.1,aj m p.2):=by simpa using hp1
 cases hu:T.und t with
 | none=>simp[hu,Ak]at h
 | some d=>
   cases d<;>simp only[hu,Ak,reduceCtorEq,ag,Option.some.injEq]at h
   · rename_i n elem
     obtain⟨sz,hsz,cs,hcs,rfl⟩:=h
     refine⟨?_,gA.2 (oM hcs (oe hz0) hp2)⟩
     have hf:=mi (m:=m) hcs
     simp only[Instr.build,Sem.run_bind,hzr,Result.andThen_ok,bb hT hu w,dU hT hsz w,eJ,hparts,hf,Sem.run_pure,aj]
   · rename_i fields
     obtain⟨pl,hpl,cs,hcs,rfl⟩:=h
     refine⟨?_,gA.2 (oM hcs (oe hz0) hp2)⟩
     have hm:(fields.mapM (λf=>(do pure (f.offset,<-sizeOf f.type):Sem (Nat×Nat)))).run P w=.ok pl.toArray w:=by
      rw[Array.mapM_eq_mapM_toList,Sem.run_map,rq hT hi hρ hpl w];rfl
     have hf:=mi (m:=m) hcs
     have hp:(λi:Nat=>pl.toArray[i]?)=λi:Nat=>pl[i]? := by funext i;simp
     simp only[Instr.build,Sem.run_bind,hzr,Result.andThen_ok,bb hT hu w,eJ,hparts,hm,hp,hf,Sem.run_pure,aj]
abbrev o7(P:Program)(cfg:cx)(C:bg)(D:Nat->Prop)(m:Nat->bo)(o:aC)(w:World)(ev:Operand->Value)(oo:Oper)(r:AV×aC):Prop:=fo P cfg C D m o w (execOp ev oo) r
omit hT in
theorem BN{oo:Oper}{x:Operand}{r:AV×aC}(ho:oo.op=.move x\/oo.op=.assign x)(h:o8 x T C ρ o=some r):o7 P cfg C D m o w ev oo r:=by
 simp only[o8,bF]at h
 obtain⟨h1,h2⟩:=hρ x _ h.1
 exact fo.pure hi h.2 (by rcases ho with ho|ho<;>simp[execOp,ho,h1]) h2
omit hT in
theorem H8{oo:Oper}{c a b:Operand}{r:AV×aC}(ho:oo.op=.pick c a b)(h:sf c a b T C ρ o=some r):o7 P cfg C D m o w ev oo r:=by
 simp only[sf,bF,ag]at h
 obtain⟨⟨cv,hc,h⟩,h2⟩:=h
 have h3:=(hρ c _ hc).1
 cases cv<;>simp only[AE,reduceCtorEq]at h
 rename_i b'
 cases b'<;>simp only[AE]at h
 · obtain⟨h4,h5⟩:=hρ b _ h
   exact fo.pure hi h2 (by simp[execOp,ho,h3,h4,aj,asBool]) h5
 · obtain⟨h4,h5⟩:=hρ a _ h
   exact fo.pure hi h2 (by simp[execOp,ho,h3,h4,aj,asBool]) h5
theorem Gf{oo:Oper}{t:TypeId}{parts:Array (Nat×Operand)}{r:AV×aC}(ho:oo.op=.build t parts)(h:qH t parts T C ρ o=some r):o7 P cfg C D m o w ev oo r:=by
 simp only[qH,bF]at h
 obtain⟨h1,h2⟩:=Dl hT hi hρ h.1
 exact fo.pure hi h.2 (by simp only[execOp,ho,Sem.run_bind,h1,Result.andThen_ok,Sem.run_pure]) h2
theorem Ib{oo:Oper}{t:TypeId}{a:Operand}{r:AV×aC}(ho:oo.op=.load t a)(h:pq t a T C ρ o=some r):o7 P cfg C D m o w ev oo r:=by
 simp only[pq,bF,ag]at h
 obtain⟨⟨p,hp,h⟩,h2⟩:=h
 obtain⟨h3,h4⟩:=hρ a _ hp
 obtain⟨ad,h5,h6,h7⟩:=tJ hT hi h4 h
 exact fo.pure hi h2 (by simp only[execOp,ho,Sem.run_bind,h3,h5,Instr.loadAt,Instr.sureAddr,Sem.run_pure,Result.andThen_ok,h6]) h7
omit hT in
theorem y4{oo:Oper}{x:Operand}{r:AV×aC}(ho:oo.op=.nilCheck x)(h:j3 x T C ρ o=some r):o7 P cfg C D m o w ev oo r:=by
 simp only[j3,bF,ag]at h
 obtain⟨⟨p,hp,h⟩,h2⟩:=h
 obtain⟨h3,h4⟩:=hρ x _ hp
 cases p<;>simp only[vi,reduceCtorEq,Option.some.injEq]at h
 · rw[h]at h4 h3
   refine fo.pure hi h2 ?_ h4
   rw[<-h]at h3 ⊢
   simp only[aj]at h3 ⊢
   simp only[execOp,ho,h3,Sem.run_pure]
 · rw[h]at h4 h3
   refine fo.pure hi h2 ?_ h4
   rw[<-h]at h3 ⊢
   simp only[aj]at h3 ⊢
   simp only[execOp,ho,h3,Sem.run_pure]
theorem NR{oo:Oper}{op:BinOp}{t yt:TypeId}{x y:Operand}{r:AV×aC}(ho:oo.op=.binOp op t x y yt)(h:x_ op t x y T C ρ o=some r):o7 P cfg C D m o w ev oo r:=by
 simp only[x_,bF,ag]at h
 obtain⟨⟨a,ha,b,hb,h⟩,h2⟩:=h
 obtain⟨h3,_⟩:=hρ x _ ha
 obtain⟨h4,_⟩:=hρ y _ hb
 obtain⟨h5,h6⟩:=E5 hT (m:=m) h w
 exact fo.pure hi h2 (by simp only[execOp,ho,h3,h4];rw[Sem.run_bind,h5];rfl) (bQ h6)
omit hT in
theorem PB{oo:Oper}{op:UnOp}{t:TypeId}{x:Operand}{r:AV×aC}(ho:oo.op=.unOp op t x)(h:El op x T C ρ o=some r):o7 P cfg C D m o w ev oo r:=by
 simp only[El,bF,ag]at h
 obtain⟨⟨a,ha,h⟩,h2⟩:=h
 obtain⟨h3,_⟩:=hρ x _ ha
 obtain⟨h5,h6⟩:=He (P:=P) (m:=m) h w
 exact fo.pure hi h2 (by simp only[execOp,ho,h3,Sem.run_bind,h5,Result.andThen_ok,Sem.run_pure]) (bQ h6)
theorem EC{oo:Oper}{t:TypeId}{x:Operand}{r:AV×aC}(ho:oo.op=.makeInterface t x)(h:qn t x T C ρ o=some r):o7 P cfg C D m o w ev oo r:=by
 simp only[qn,bF,ag,rM]at h
 obtain⟨⟨v,hv,h⟩,h2⟩:=h
 obtain⟨h3,h4⟩:=hρ x _ hv
 split at h<;>simp only[reduceCtorEq,Option.some.injEq]at h
 rename_i d hne hu
 refine fo.pure hi h2 ?_ (by rw[<-h];exact h4)
 rw[<-h]
 simp only[execOp,ho,h3,Instr.makeInterface,Sem.run_bind,bb hT hu w,Result.andThen_ok,aj]
 cases d<;>first|rfl|exact absurd rfl (hne _)
omit hT in
theorem H1{oo:Oper}{fn:Fn}{first captured:Array Operand}{r:AV×aC}(ho:oo.op=.makeFunc fn first captured)(h:v_ fn first captured T C ρ o=some r):o7 P cfg C D m o w ev oo r:=by
 simp only[v_,bF]at h
 obtain⟨h,h2⟩:=h
 cases fn<;>simp only[ph,reduceCtorEq,ag,Option.some.injEq]at h
 obtain⟨a,ha,b,hb,h⟩:=h
 obtain⟨h3,h4⟩:=iZ hρ ha
 obtain⟨h5,h6⟩:=iZ hρ hb
 refine fo.pure hi h2 ?_ ?_
 · rw[<-h];simp[execOp,ho,Instr.makeFunc,h3,h5,aj]
 · rw[<-h]
   intro i hm
   simp only[aq,List.mem_append]at hm
   rcases hm with hm|hm
   · exact h4 i hm
   · exact h6 i hm
theorem Fu{oo:Oper}{t:TypeId}{x:Operand}{lo hi' mx:Option Operand}{r:AV×aC}(ho:oo.op=.slice t x lo hi' mx)(h:nS t x lo hi' mx T C ρ o=some r):o7 P cfg C D m o w ev oo r:=by
 simp only[nS,bF,ag]at h
 obtain⟨⟨v,hv,l,hl,hh,hhh,mm,hmm,h⟩,h2⟩:=h
 obtain⟨h3,h4⟩:=hρ x _ hv
 obtain⟨h5,h6⟩:=xt hT h4 h w
 exact fo.pure hi h2 (by simp only[execOp,ho,h3,po hρ hl,po hρ hhh,po hρ hmm,Sem.run_bind,h5,Result.andThen_ok,Sem.run_pure]) h6
theorem wl{oo:Oper}{s:TypeId}{x:Operand}{f:Nat}{r:AV×aC}(ho:oo.op=.fieldAddr s x f)(h:jl s x f T C ρ o=some r):o7 P cfg C D m o w ev oo r:=by
 simp only[jl,bF,ag]at h
 obtain⟨⟨v,hv,h⟩,h2⟩:=h
 obtain⟨h3,h4⟩:=hρ x _ hv
 obtain⟨h5,h6⟩:=tv hT h4 h w
 exact fo.pure hi h2 (by simp only[execOp,ho,h3,Sem.run_bind,h5,Result.andThen_ok,Sem.run_pure]) h6
theorem EB{oo:Oper}{s:TypeId}{x:Operand}{f:Nat}{r:AV×aC}(ho:oo.op=.field s x f)(h:qo s x f T C ρ o=some r):o7 P cfg C D m o w ev oo r:=by
 simp only[qo,bF,ag]at h
 obtain⟨⟨v,hv,h⟩,h2⟩:=h
 obtain⟨h3,h4⟩:=hρ x _ hv
 obtain⟨h5,h6⟩:=B9 hT h4 h w
 exact fo.pure hi h2 (by simp only[execOp,ho,h3,Sem.run_bind,h5,Result.andThen_ok,Sem.run_pure]) h6
omit hT hi hρ in
theorem tR{v:AV}{n:Nat}(h:CN v=some n):∃k,v=.int k (.ofNat n):=by
 unfold CN at h
 split at h
 · simp_all
 · cases h
theorem xe{oo:Oper}{t:TypeId}{x ix:Operand}{r:AV×aC}(ho:oo.op=.indexAddr t x ix)(h:ie t x ix T C ρ o=some r):o7 P cfg C D m o w ev oo r:=by
 simp only[ie,bF,ag]at h
 obtain⟨⟨v,hv,i,hix,n,hn,h⟩,h2⟩:=h
 obtain⟨k,rfl⟩:=tR hn
 obtain⟨h3,h4⟩:=hρ x _ hv
 obtain⟨h7,_⟩:=hρ ix _ hix
 obtain⟨h5,h6⟩:=ti hT (k:=k) h4 h w
 exact fo.pure hi h2 (by simp only[execOp,ho,h3,h7,aj,Int.ofNat_eq_natCast,Sem.run_bind,h5,Result.andThen_ok,Sem.run_pure]) h6
theorem Ds{oo:Oper}{t:TypeId}{x ix:Operand}{r:AV×aC}(ho:oo.op=.index t x ix)(h:n3 t x ix T C ρ o=some r):o7 P cfg C D m o w ev oo r:=by
 simp only[n3,bF,ag]at h
 obtain⟨⟨v,hv,i,hix,n,hn,h⟩,h2⟩:=h
 obtain⟨k,rfl⟩:=tR hn
 obtain⟨h3,h4⟩:=hρ x _ hv
 obtain⟨h7,_⟩:=hρ ix _ hix
 obtain⟨h5,h6⟩:=BU hT (k:=k) h4 h w
 exact fo.pure hi h2 (by simp only[execOp,ho,h3,h7,aj,Int.ofNat_eq_natCast,Sem.run_bind,h5,Result.andThen_ok,Sem.run_pure]) h6
omit hT in
theorem zB{oo:Oper}{t:Operand}{i:Nat}{r:AV×aC}(ho:oo.op=.extract t i)(h:lK t i T C ρ o=some r):o7 P cfg C D m o w ev oo r:=by
 simp only[lK,bF,ag]at h
 obtain⟨⟨v,hv,h⟩,h2⟩:=h
 obtain⟨h3,h4⟩:=hρ t _ hv
 cases v<;>simp only[xw,reduceCtorEq]at h
 rename_i vs
 refine fo.pure hi h2 ?_ (dy.1 (eU.1 h4) _ (List.mem_of_getElem? h))
 simp[execOp,ho,h3,aj,Instr.extract,eS,h]
end
theorem alloc_heap_new(w:World)(x:Obj):(w.alloc x).heap[w.heap.size]? = some x:=by
 show(w.heap.push x)[w.heap.size]? = _
 simp
theorem dk.fresh1{cfg:cx}{C:bg}{D:Nat->Prop}{m:Nat->bo}{o:aC}{w w0:World}(hi:dQ cfg D m C o w)(x:aw)(l:bo)(b:Obj)(hw:w0.heap=w.heap)(hos:w0.os=w.os)(ht:w0.tape=w.tape)(hu:w0.output=w.output)(hl:l.blk=w.heap.size)(hx:cH D m l x (some b)) :
 dk cfg C D m o w (q5 D (C.lo+o.n)) (tT m (C.lo+o.n) l) (o.push x) (w0.alloc b):=by
 refine dk.alloc hi (by simp[hw]) (λk hk=>?_) (by omega) ?_ hos ht hu
 · rw[Below.heap_alloc w0 b k (by rw[hw];exact hk),hw]
 · rw[hl,<-hw,alloc_heap_new];exact hx
theorem pA{D:Nat->Prop}{n:Nat}:q5 D n n:=.inr rfl
theorem pt{D:Nat->Prop}{m:Nat->bo}{l:bo}{cs:List AV}{rw:Bool}{e:TypeId}(hb:l.base=0)(ho:eI D m cs):cH D m l (.cells cs rw none) (some (.cells (ar m cs).toArray e)):=
 ⟨_,e,(0,0),rfl,⟨λi v hv=>by rw[hb,Nat.zero_add];simp[eS,hv],ho,λ_=>rfl,λs hs=>by cases hs⟩⟩
theorem q6{D:Nat->Prop}{m:Nat->bo}{n off:Nat}{l:bo}:cY (q5 D n) (tT m n l) (.ptr n off):=λi hi=>by
 simp only[aq,List.mem_singleton]at hi;subst hi;exact⟨pA,Nat.zero_le _⟩
theorem n8(z:List AV):∀k,(jb z k).length=k*z.length
 | 0=>by simp[jb]
 | k+1=>by rw[jb,List.length_append,n8 z k,Nat.succ_mul,Nat.add_comm]
theorem xU(z:List AV)(hz:0<z.length):∀k i,i<k*z.length->(jb z k)[i]? = z[i%z.length]?
 | 0,i,h=>by simp at h
 | k+1,i,h=>by
   rw[jb,List.getElem?_append]
   by_cases hi:i<z.length
   · rw[if_pos hi,Nat.mod_eq_of_lt hi]
   · rw[if_neg hi,xU z hz k (i-z.length) (by rw[Nat.succ_mul]at h;omega),<-Nat.mod_eq_sub_mod (by omega)]
theorem yu{m:Nat->bo}(z:List AV)(hz:0<z.length)(k n:Nat)(hn:n=k*z.length) :
 (Array.range n).map (λi=>(ar m z).toArray[i%(ar m z).toArray.size]!)=(ar m (jb z k)).toArray:=by
 subst hn
 apply Array.ext
 · simp[bZ,n8]
 · intro i h1 h2
   have hi:i<k*z.length:=by simpa using h1
   have hm:i%z.length<z.length:=Nat.mod_lt _ hz
   have h3:(ar m (jb z k))[i]? = (ar m z)[i%z.length]? := by rw[eS,eS,xU z hz k i hi]
   simp only[Array.getElem_map,Array.getElem_range,List.size_toArray,bZ,List.getElem_toArray]
   have h4:i%z.length<(ar m z).length:=by rw[bZ];exact hm
   have h5:i<(ar m (jb z k)).length:=by rw[bZ,n8];exact hi
   rw[List.getElem?_eq_getElem h5,List.getElem?_eq_getElem h4,Option.some.injEq]at h3
   rw[h3]
   simp[h4]
theorem xl{D:Nat->Prop}{m:Nat->bo}{z:List AV}(hz:eI D m z):∀k,eI D m (jb z k)
 | 0=>eL
 | k+1=>dT.2 ⟨hz,xl hz k⟩
section
variable{P:Program}{T:eA}(hT:eE P T){cfg:cx}{C:bg}{D:Nat->Prop}{m:Nat->bo}{o:aC}{w:World}(hi:dQ cfg D m C o w){ρ:Operand->Option AV}{ev:Operand->Value}(hρ:jE D m ρ ev)
include hT hi hρ
omit hT hρ in
theorem x7{s:Sem Next}{v:AV}{r:AV×aC}{e:TypeId}(hv:cY D m v)(hs:s.run P w=.ok (.value (.pointer (some ⟨w.heap.size,0,none⟩))) (w.alloc (.cells (aj m v).cells e)))(h:jr C o v=some r):fo P cfg C D m o w s r:=by
 simp only[jr,ay,Option.some.injEq]at h
 obtain⟨_,rfl⟩:=h
 have he:=dk.fresh1 hi (.cells (bP v) true none) ⟨w.heap.size,0,0⟩ (.cells (aj m v).cells e) rfl rfl rfl rfl rfl (by rw[eJ];exact pt rfl (lE hv))
 refine⟨_,_,_,_,hs,.inl ?_,q6,he⟩
 simp[aj,aC.next,eN]
theorem FQ{oo:Oper}{t:TypeId}{r:AV×aC}(ho:oo.op=.alloc t)(h:lX t T C ρ o=some r):o7 P cfg C D m o w ev oo r:=by
 simp only[lX,ag]at h
 obtain⟨z,hz,h⟩:=h
 obtain⟨h1,h2⟩:=jO hT (m:=m) hz w
 refine x7 (e:=t) hi (bQ h2) ?_ h
 simp[execOp,ho,Instr.alloc,h1,newVar,newRow]
omit hT in
theorem NU{oo:Oper}{t:TypeId}{x:Operand}{r:AV×aC}(ho:oo.op=.box t x)(h:sj x T C ρ o=some r):o7 P cfg C D m o w ev oo r:=by
 simp only[sj,ag]at h
 obtain⟨v,hv,h⟩:=h
 obtain⟨h3,h4⟩:=hρ x _ hv
 refine x7 (e:=t) hi h4 ?_ h
 simp[execOp,ho,Instr.box,h3,newVar,newRow]
theorem tw{oo:Oper}{t:TypeId}{len:Nat}{parts:Array (Nat×Operand)}{r:AV×aC}(ho:oo.op=.buildSlice t len parts)(h:eK t len parts T C ρ o=some r):o7 P cfg C D m o w ev oo r:=by
 simp only[eK,ga,ag,ay,Bool.and_eq_true,bt,cK,ba,Option.some.injEq]at h
 obtain⟨elem,he,n,hn,z,hz,ps,hps,⟨⟨hb,hl⟩,h0⟩,cs,hcs,_,rfl⟩:=h
 obtain⟨hp1,hp2⟩:=ld hρ hps
 obtain⟨hz1,hz2⟩:=jO hT (m:=m) hz w
 have hparts:(parts.map λ(x:Nat×Operand)=>(x.1,ev x.2)).toList=ps.map λp=>(p.1,aj m p.2):=by simpa using hp1
 have hf:=mi (m:=m) hcs
 have hok:=oM (D:=D) (m:=m) hcs (xl (oe hz2) len) hp2
 have he':=dk.fresh1 hi (.cells cs true none) ⟨w.heap.size,0,0⟩ (.cells (ar m cs).toArray elem) rfl rfl rfl rfl rfl (pt rfl hok)
 refine⟨_,_,_,.value (.slice (some ⟨w.heap.size,0,none⟩) len len),?_,.inl ?_,?_,he'⟩
 · have h1:¬(len*n > 2^24):=by omega
   by_cases hlz:len*n=0
   · have hln:len=0:=by rcases Nat.mul_eq_zero.1 hlz with h|h<;>omega
     subst hln
     simp only[jb,ar]at hf
     simp only[execOp,ho,Instr.buildSlice,Sem.run_bind,bb hT (ex he) w,Result.andThen_ok,dU hT hn w,hparts]
     have e0:∀f:Nat->Value,(Array.range 0).map f=#[]:=λf=>by apply Array.toList_inj.1;simp
     simp only[Nat.zero_mul,if_true,gt_iff_lt,Nat.not_lt_zero,if_false,Sem.run_pure,Result.andThen_ok,e0,hf]
     simp[newRow]
   · have hrep:=yu (m:=m) (bP z) (by omega) len (len*n) (by rw[hl])
     simp only[execOp,ho,Instr.buildSlice,Sem.run_bind,bb hT (ex he) w,Result.andThen_ok,dU hT hn w,if_neg h1,hparts,Sem.run_pure,if_neg hlz,hz1,eJ,hrep,hf]
     simp[newRow]
 · simp[aj,gI,aC.next,eN]
 · intro i hm
   simp only[aq,List.mem_singleton,d6]at hm
   subst hm
   exact⟨pA,Nat.zero_le _⟩
omit hT in
theorem zH{oo:Oper}{t:TypeId}{x:Option Operand}{r:AV×aC}(ho:oo.op=.makeMap t x)(h:lI x T C ρ o=some r):o7 P cfg C D m o w ev oo r:=by
 simp only[lI,ay,Option.some.injEq,Option.isNone_iff_eq_none]at h
 obtain⟨rfl,rfl⟩:=h
 have he':=dk.fresh1 hi (.map []) ⟨w.heap.size,0,0⟩ (.map #[] 0) rfl rfl rfl rfl rfl ⟨#[],0,rfl,rfl,λe hm=>by cases hm⟩
 refine⟨_,_,_,.value (.map (some w.heap.size)),?_,.inl ?_,?_,he'⟩
 · simp[execOp,ho,Instr.makeMap]
 · simp[aj,aC.next,eN]
 · intro i hm
   simp only[aq,List.mem_singleton]at hm
   subst hm
   exact⟨pA,Nat.zero_le _⟩
theorem DB{oo:Oper}{t:TypeId}{a x:Operand}{r:AV×aC}(ho:oo.op=.store t a x)(h:lB t a x T C ρ o=some r):o7 P cfg C D m o w ev oo r:=by
 simp only[lB,ag,Option.some.injEq]at h
 obtain⟨p,hp,v,hv,o',hs,rfl⟩:=h
 obtain⟨h1,h2⟩:=hρ a _ hp
 obtain⟨h3,h4⟩:=hρ x _ hv
 obtain⟨w',hr,he⟩:=Aq hT hi h2 h4 hs
 exact⟨D,m,w',.skip,by simp only[execOp,ho,h1,h3,Sem.run_bind,hr,Result.andThen_ok,Sem.run_pure],.inr ⟨rfl,rfl⟩,gc,he⟩
end
theorem x5{v:AV}{b:UInt8}(h:rz v=some b):v=.int .u8 (.ofNat b.toNat):=by
 unfold rz at h
 split at h
 · simp only[ay,ba,Option.some.injEq]at h
   obtain⟨h1,rfl⟩:=h
   rw[UInt8.toNat_ofNat_of_lt' h1]
 · cases h
theorem mD:∀{vs:List AV} {s:List UInt8},jJ vs=some s->vs=s.map hH
 | [],s,h=>by cases h;rfl
 | v::vs,s,h=>by
   simp only[jJ,ag,Option.some.injEq]at h
   obtain⟨b,hb,s',hs,rfl⟩:=h
   rw[x5 hb,mD hs]
   rfl
theorem yd(w:World)(need old:Nat)(e:TypeId)(h:need<2^63):need<=grownCap w need old e:=by
 unfold grownCap Question.cut
 simp
section
variable{P:Program}{T:eA}(hT:eE P T){cfg:cx}{C:bg}{D:Nat->Prop}{m:Nat->bo}{o:aC}{w:World}(hi:dQ cfg D m C o w){ρ:Operand->Option AV}{ev:Operand->Value}(hρ:jE D m ρ ev)
include hT hi hρ
omit hi hρ in
theorem qV{e:TypeId}(h:jV (T.und e)=true):T.und e=some (.int .u8):=by
 cases hu:T.und e with
 | none=>simp[hu,jV]at h
 | some d=>
   cases d<;>simp[hu,jV]at h
   rename_i k
   cases k<;>simp at h
   rfl
omit hi hρ in
theorem tQ{t:TypeId}(h:tB (T.und t)=true):T.und t=some .string:=qG h
theorem zU{oo:Oper}{src dst:TypeId}{x:Operand}{r:AV×aC}(ho:oo.op=.convert src dst x)(h:gd src dst x T C ρ o=some r):o7 P cfg C D m o w ev oo r:=by
 simp only[gd,ag]at h
 obtain⟨v,hv,h⟩:=h
 obtain⟨h1,h2⟩:=hρ x _ hv
 cases v<;>simp only[ig,reduceCtorEq,ay,bF]at h
 case int k n=>
  obtain⟨hs,h,h3⟩:=h
  obtain⟨d,hd⟩:=Option.isSome_iff_exists.1 hs
  cases hu:T.und dst with
  | none=>simp[hu,qm]at h
  | some d'=>
    cases d'<;>simp only[hu,qm,reduceCtorEq,nz,Option.some.injEq]at h
    · refine fo.pure hi h3 ?_ (bQ (by rw[<-h];simp[aq]))
      rw[<-h]
      simp only[execOp,ho,h1,convert,Sem.run_bind,bb hT hd w,bb hT hu w,Result.andThen_ok,aj,Conv.intToInt,Sem.run_pure]
    · refine fo.pure hi h3 ?_ (bQ (by rw[<-h];simp[aq]))
      rw[<-h]
      simp only[execOp,ho,h1,convert,Sem.run_bind,bb hT hd w,bb hT hu w,Result.andThen_ok,aj,Conv.intToString,Sem.run_pure]
 case str s=>
  obtain⟨hs,h⟩:=h
  have hsu:=tQ hT hs
  cases hu:T.und dst with
  | none=>simp[hu,lH]at h
  | some d'=>
    cases d'<;>simp only[hu,lH,reduceCtorEq,Option.some.injEq,ay,Bool.and_eq_true,bt]at h
    · subst h
      refine fo.pure hi rfl ?_ h2
      simp only[execOp,ho,h1,convert,Sem.run_bind,bb hT hsu w,bb hT hu w,Result.andThen_ok,aj,Sem.run_pure]
    · rename_i e
      obtain⟨⟨hb,hl⟩,rfl⟩:=h
      have hbu:=qV hT hb
      have hr:=run_bytes_of_string (P:=P) w src dst e ⟨⟨s⟩⟩ (ia hT hsu) (ia hT hu) (ia hT hbu)
      have hge:=yd w s.length 0 e (by omega)
      have hat:∀(i:Nat) (v:AV),(s.map hH)[i]? = some v->(bytesRow ⟨⟨s⟩⟩ (grownCap w (ByteArray.mk ⟨s⟩).size 0 e))[0+i]? = some (aj m v):=by
       intro i v hiv
       rw[List.getElem?_map]at hiv
       obtain⟨b,hb',rfl⟩:=Option.map_eq_some_iff.1 hiv
       obtain⟨hlt,hbe⟩:=List.getElem?_eq_some_iff.1 hb'
       rw[Nat.zero_add,bytesRow_at _ _ i (by simpa using hlt)]
       simp[aj,hH,hbe]
      have hokb:eI D m (s.map hH):=by
       rw[dy]
       intro v hm
       obtain⟨b,_,rfl⟩:=List.mem_map.1 hm
       exact bQ (by simp[hH,aq])
      have he:=dk.fresh1 hi (.cells (s.map hH) false none) ⟨w.heap.size,0,grownCap w s.length 0 e⟩ (.cells (bytesRow ⟨⟨s⟩⟩ (grownCap w (ByteArray.mk ⟨s⟩).size 0 e)) e ((bytesRow ⟨⟨s⟩⟩ (grownCap w (ByteArray.mk ⟨s⟩).size 0 e)).size,(bytesRow ⟨⟨s⟩⟩ (grownCap w (ByteArray.mk ⟨s⟩).size 0 e)).size+1)) (w0:=w.drew) rfl rfl rfl rfl rfl
       ⟨_,_,_,rfl,⟨hat,hokb,(λh=>by cases h),(λs h=>by cases h)⟩⟩
      refine⟨_,_,_,.value (.slice (some ⟨w.heap.size,0,none⟩) (ByteArray.mk ⟨s⟩).size (grownCap w (ByteArray.mk ⟨s⟩).size 0 e)),?_,.inl ?_,?_,he⟩
      · simp only[execOp,ho,h1,aj,Sem.run_bind,hr,Result.andThen_ok,Sem.run_pure]
      · simp only[aj,gI,aC.next,eN,Nat.sub_zero,Nat.add_zero];rfl
      · intro i hm
        simp only[aq,List.mem_singleton,d6]at hm
        subst hm
        refine⟨pA,?_⟩
        simp only[aC.next,eN,Nat.add_zero]
        exact hge
 case slice id off len c=>
  obtain⟨h,h3⟩:=h
  have hd:D id:=(h2 (id,d6 len c) (by simp[aq])).1
  simp only[lM,ag,ay,Bool.and_eq_true,Option.some.injEq,jG]at h
  obtain⟨e,he,⟨hb,hst⟩,cs,⟨cs0,hc0,hcs⟩,s,hs,h⟩:=h
  have hbu:=qV hT hb
  have hsu:=tQ hT hst
  have hel:=ex he
  have hcse:=mD hs
  subst hcse
  have hlen:s.length=len:=by
   have:=pu hcs
   simpa using this
  refine fo.pure hi h3 ?_ (bQ (by rw[<-h];simp[aq]))
  rw[<-h]
  have hr:=run_convert_bytes_back (P:=P) w src dst e ⟨(m id).blk,(m id).base+off,none⟩ (gI (m id) c) s (ia hT hel) (ia hT hbu) (ia hT hsu) (λj hj=>by
   rw[fJ,Nat.add_assoc]
   have hg:=vL hcs (i:=j) (by omega)
   rw[List.getElem?_map,List.getElem?_eq_getElem hj]at hg
   have:=(hi.cell hd hc0 hg).1
   simpa [aj,hH]using this)
  rw[hlen]at hr
  simp only[execOp,ho,h1,aj,Sem.run_bind,hr,Result.andThen_ok,Sem.run_pure]
end
theorem rb(n:Nat)(h:n<=10000):IntKind.i64.wrap (n:Int)=(n:Int):=xq .i64 _ (by simp only[bA];omega) (by simp only[bB];omega)
theorem mY{P:Program}{w:World}{r:Nat}{x:Obj}(h:w.heap[r]? = some x)(hx:∀c e f,x≠.cells c e f):(getObj r).run P w=.ok x w:=by
 cases x<;>first|exact absurd rfl (hx _ _ _)|simp[getObj,Sem.run,h]
theorem mQ{P:Program}{w:World}{r:Nat}{x y:Obj}(h:w.heap[r]? = some x)(hx:∀c e f,x≠.cells c e f):(setObj r y).run P w=.ok () { w with heap:=w.heap.setIfInBounds r y }:=by
 cases x<;>first|exact absurd rfl (hx _ _ _)|simp[setObj,Sem.run,h]
theorem lc(w:World)(r:Nat)(x y:Obj)(h:w.heap[r]? = some x):({ w with heap:=w.heap.setIfInBounds r y }:World).heap[r]? = some y:=by
 grind
theorem sX{m:Nat->bo}{d:TypeDesc}{k e:AV}{b:Bool}(hk:nZ k (some d)=true)(h:rJ k e=some b):Instr.sameNow d (aj m k) (aj m e)=some b:=by
 cases d<;>simp only[nZ,Bool.false_eq_true]at hk<;>cases k<;>simp at hk<;>cases e<;>simp only[rJ,reduceCtorEq,ay,gi,Option.some.injEq]at h
 · subst h;simp[Instr.sameNow,aj,jZ]
 · obtain⟨rfl,rfl⟩:=h;simp[Instr.sameNow,aj,pI]
 · subst h
   simp only[Instr.sameNow,aj,Option.some.injEq,cF]
   rw[beq_toListBytes,j0,j0]
theorem sx{m:Nat->bo}{d:TypeDesc}{k:AV}(hk:nZ k (some d)=true):∀{es:List (AV×AV)} {en:List MapEntry} {r:Option AV} {i:Nat},en.map (λe=>(e.key,e.val))=es.map (λe=>(aj m e.1,aj m e.2))->mH k es=some r->
 ∃q,Instr.findNow d (aj m k) en i=some q/\q.map (·.2)=r.map (aj m)
 | [],en,r,i,he,h=>by
   cases h
   cases en with
   | nil=>exact⟨none,rfl,rfl⟩
   | cons _ _=>simp at he
 | e::es,en,r,i,he,h=>by
   cases en with
   | nil=>simp at he
   | cons n en=>
     simp only[List.map_cons,List.cons.injEq,Prod.mk.injEq]at he
     obtain⟨⟨h1,h2⟩,he⟩:=he
     simp only[mH,ag]at h
     obtain⟨b,hb,h⟩:=h
     have hs:=sX (m:=m) hk hb
     cases b with
     | true=>
       simp only[cond_true,Option.some.injEq]at h
       subst h
       exact⟨some (i,n.val),by simp[Instr.findNow,h1,hs],by simp[h2]⟩
     | false=>
       simp only[cond_false]at h
       obtain⟨q,hq,hqr⟩:=sx hk (i:=i+1) he h
       exact⟨q,by simp[Instr.findNow,h1,hs,hq],hqr⟩
theorem Ah{k e:AV}(h:rJ k e=some true):k=e:=by
 cases e<;>simp only[rJ,reduceCtorEq]at h<;>cases k<;>simp only[reduceCtorEq,ay,gi,Option.some.injEq]at h
 · rw[jZ,beq_iff_eq]at h;rw[h]
 · rw[ly]at h;rw[h.1,h.2]
 · rw[cF,beq_iff_eq]at h;rw[h]
theorem pL{m:Nat->bo}{d:TypeDesc}{k v:AV}(hk:nZ k (some d)=true):∀{es es':List (AV×AV)} {en:List MapEntry} {i:Nat},en.map (λe=>(e.key,e.val))=es.map (λe=>(aj m e.1,aj m e.2))->B1 k v es=some es'->
 ∃j x,Instr.findNow d (aj m k) en i=some (some (i+j,x))/\(∃e,en[j]? = some e/\e.key=aj m k)/\(en.modify j λe=>{ e with key:=aj m k,val:=aj m v }).map (λe=>(e.key,e.val))=es'.map (λe=>(aj m e.1,aj m e.2))
 | [],es',en,i,he,h=>by cases h
 | e::es,es',en,i,he,h=>by
   cases en with
   | nil=>simp at he
   | cons n en=>
     simp only[List.map_cons,List.cons.injEq,Prod.mk.injEq]at he
     obtain⟨⟨h1,h2⟩,he⟩:=he
     simp only[B1,ag]at h
     obtain⟨b,hb,h⟩:=h
     have hs:=sX (m:=m) hk hb
     cases b with
     | true=>
       simp only[cond_true,Option.some.injEq]at h
       subst h
       exact⟨0,n.val,by simp[Instr.findNow,h1,hs],⟨n,rfl,by rw[h1,Ah hb]⟩,by simp[he]⟩
     | false=>
       simp only[cond_false,ag,Option.some.injEq]at h
       obtain⟨es1,hes,rfl⟩:=h
       obtain⟨j,x,a1,⟨e1,a2,a3⟩,a4⟩:=pL hk (i:=i+1) he hes
       refine⟨j+1,x,?_,⟨e1,by simpa using a2,a3⟩,?_⟩
       · simp only[Instr.findNow,h1,hs]
         rw[show i+(j+1)=i+1+j by omega,<-a1]
       · grind
theorem AG{D:Nat->Prop}{m:Nat->bo}{k v:AV}(hk:cY D m k)(hv:cY D m v):∀{es es':List (AV×AV)},B1 k v es=some es'->(∀e∈es,cY D m e.1/\cY D m e.2)->∀e∈es',cY D m e.1/\cY D m e.2
 | [],es',h,_=>by cases h
 | e::es,es',h,ho=>by
   simp only[B1,ag]at h
   obtain⟨b,hb,h⟩:=h
   cases b with
   | true=>
     grind
   | false=>
     simp only[cond_false,ag,Option.some.injEq]at h
     obtain⟨es1,hes,rfl⟩:=h
     intro x hx
     rcases List.mem_cons.1 hx with rfl|hx
     · grind
     · exact AG hk hv hes (λe he=>ho e (List.mem_cons_of_mem _ he)) x hx
theorem tc{m:Nat->bo}{d:TypeDesc}{k:AV}(hk:nZ k (some d)=true):Instr.sameBits 10000 (aj m k) (aj m k)=true:=by
 cases d<;>simp only[nZ,Bool.false_eq_true]at hk<;>cases k<;>simp at hk<;>simp only[aj,Instr.sameBits]<;>first|(simp;done)|(rw[beq_toListBytes];simp)
theorem oa{P:Program}{m:Nat->bo}{d:TypeDesc}{t:TypeId}{k:AV}{b:Bool}{w:World}(hk:nZ k (some d)=true)(hu:(underlying t).run P w=.ok d w):(Instr.checkKey b 10000 t (aj m k)).run P w=.ok () w:=by
 unfold Instr.checkKey
 simp only[Sem.run_bind,hu,Result.andThen_ok]
 cases d<;>simp only[nZ,Bool.false_eq_true]at hk<;>cases k<;>simp at hk<;>simp[aj]
theorem pJ{P:Program}{m:Nat->bo}{d:TypeDesc}{t:TypeId}{k:AV}{w:World}{es:List (AV×AV)}{en:List MapEntry}{r:Option AV}(hk:nZ k (some d)=true)(hu:(underlying t).run P w=.ok d w)
 (he:en.map (λe=>(e.key,e.val))=es.map (λe=>(aj m e.1,aj m e.2))) (h:mH k es=some r):∃q,(Instr.findKey t (aj m k) en).run P w=.ok q w/\q.map (·.2)=r.map (aj m):=by
 obtain⟨q,hq,hqr⟩:=sx (m:=m) hk (i:=0) he h
 exact⟨q,by simp[Instr.findKey,hu,hq],hqr⟩
theorem tX{D:Nat->Prop}{m:Nat->bo}{k v:AV}:∀{es:List (AV×AV)},mH k es=some (some v)->(∀e∈es,cY D m e.1/\cY D m e.2)->cY D m v
 | [],h,_=>by cases h
 | e::es,h,ho=>by
   simp only[mH,ag]at h
   obtain⟨b,hb,h⟩:=h
   cases b with
   | true=>simp only[cond_true,Option.some.injEq]at h;subst h;exact(ho e (by simp)).2
   | false=>simp only[cond_false]at h;exact tX h (λe he=>ho e (by simp[he]))
section
variable{P:Program}{T:eA}(hT:eE P T){cfg:cx}{C:bg}{D:Nat->Prop}{m:Nat->bo}{o:aC}{w:World}(hi:dQ cfg D m C o w){ρ:Operand->Option AV}{ev:Operand->Value}(hρ:jE D m ρ ev)
include hT hi hρ
omit hi hρ in
theorem q_{t:TypeId}(h:o9 T t=true):∃i,T.inf t=some i/\i.bytes<=100000:=by
 unfold o9 at h
 split at h
 · simp_all
 · cases h
theorem w6{oo:Oper}{t:TypeId}{l c:Operand}{r:AV×aC}(ho:oo.op=.makeSlice t l c)(h:gj t l c T C ρ o=some r):o7 P cfg C D m o w ev oo r:=by
 simp only[gj,kj,ag,ay,Bool.and_eq_true,bt,cK,ba,Option.some.injEq]at h
 obtain⟨lv,hlv,cv,hcv,elem,he,n,hn,z,hz,cn,hcn,ln,hln,⟨⟨⟨⟨hl,h0⟩,hb⟩,hsm⟩,_⟩,rfl⟩:=h
 obtain⟨kc,rfl,hc1⟩:=lL hcn
 obtain⟨kl,rfl,hl1⟩:=lL hln
 have e1:=(hρ l _ hlv).1
 have e2:=(hρ c _ hcv).1
 obtain⟨hz1,hz2⟩:=jO hT (m:=m) hz w
 obtain⟨inf,hinf,hby⟩:=q_ hT hsm
 have hmul:inf.bytes*cn<=100000*10000:=Nat.mul_le_mul hby hc1
 have hmul2:inf.bytes*ln<=100000*10000:=Nat.mul_le_mul hby (Nat.le_trans hl1 hc1)
 have hcs:eI D m (jb (bP z) cn):=xl (oe hz2) cn
 have he':=dk.fresh1 hi (.cells (jb (bP z) cn) true none) ⟨w.heap.size,0,0⟩ (.cells (ar m (jb (bP z) cn)).toArray elem) rfl rfl rfl rfl rfl (pt rfl hcs)
 refine⟨_,_,_,.value (.slice (some ⟨w.heap.size,0,none⟩) ln cn),?_,.inl ?_,?_,he'⟩
 · have hrep:(Array.range (cn*n)).map (λi=>(if cn*n=0 then #[]else(ar m (bP z)).toArray)[i%(if cn*n=0 then #[]else(ar m (bP z)).toArray).size]!)=(ar m (jb (bP z) cn)).toArray:=by
    by_cases hz0:cn*n=0
    · have:cn=0:=by rcases Nat.mul_eq_zero.1 hz0 with h|h<;>omega
      subst this
      apply Array.toList_inj.1
      simp[jb,ar]
    · rw[if_neg hz0]
      exact yu (m:=m) (bP z) (by omega) cn (cn*n) (by rw[hl])
   have hw1:=rb cn hc1
   have hw2:=rb ln (by omega)
   have t1:¬((cn:Int)<0):=by omega
   have t2:¬((inf.bytes:Int)*(cn:Int) > 2^48):=by
    omega
   have t3:¬((ln:Int)<0):=by omega
   have t4:¬((ln:Int) > (cn:Int)):=by omega
   simp only[execOp,ho,e1,e2,aj,Int.ofNat_eq_natCast,Instr.makeSlice,Sem.run_bind,bb hT (ex he) w,Result.andThen_ok,asInt,asIntOf,Sem.run_pure,lV hT hinf w,hw1,hw2,t1,t2,t3,t4,decide_false,Bool.or_self,Bool.false_eq_true,if_false,run_askRoom,dU hT hn w,Int.toNat_natCast]
   by_cases hz0:cn*n=0
   · simp only[hz0,if_true,Sem.run_pure,Result.andThen_ok]at hrep ⊢
     simp only[hrep,newRow,Sem.run_bind,run_newObj,Result.andThen_ok,Sem.run_pure];rfl
   · simp only[hz0,if_false,Sem.run_pure,Result.andThen_ok,Sem.run_bind,hz1,eJ]at hrep ⊢
     simp only[hrep,newRow,Sem.run_bind,run_newObj,Result.andThen_ok,Sem.run_pure];rfl
 · simp[aj,gI,aC.next,eN]
 · intro i hm
   simp only[aq,List.mem_singleton,d6]at hm
   subst hm
   exact⟨pA,Nat.zero_le _⟩
omit hi hρ in
theorem lC{t kt et:TypeId}(h:Ck (T.und t)=some (kt,et)):T.und t=some (.map kt et):=by
 cases hu:T.und t with
 | none=>simp[hu,Ck]at h
 | some d=>cases d<;>simp[hu,Ck]at h;simp[h]
theorem xL{oo:Oper}{t:TypeId}{mo k x:Operand}{r:AV×aC}(ho:oo.op=.insert t mo k x\/oo.op=.mapUpdate t mo k x)(h:jd t mo k x T C ρ o=some r):o7 P cfg C D m o w ev oo r:=by
 simp only[jd,vV,ag,ay]at h
 obtain⟨mv,hmv,kv,hkv,v,hv,⟨kt,et⟩,hmt,hkd,h⟩:=h
 simp only at hkd
 obtain⟨e1,o1⟩:=hρ mo _ hmv
 obtain⟨e2,o2⟩:=hρ k _ hkv
 obtain⟨e3,o3⟩:=hρ x _ hv
 cases mv<;>simp only[qz,reduceCtorEq,ag]at h
 rename_i id
 have hd:D id:=(o1 (id,0) (by simp[aq])).1
 obtain⟨y,hy,es,hes,rr,hf,h⟩:=h
 cases y<;>simp only[jN,reduceCtorEq,Option.some.injEq]at hes
 subst hes
 have hob:=hi.obj id hd
 rw[e7 hy]at hob
 obtain⟨en,ck,hb,hen,hoe⟩:=hob
 cases hud:T.und kt with
 | none=>rw[hud]at hkd;simp[nZ]at hkd
 | some d=>
   rw[hud]at hkd
   have hck:=oa (P:=P) (w:=w) (m:=m) (b:=false) hkd (bb hT hud w)
   have hg:=mY (P:=P) hb (by simp)
   cases rr with
   | none=>
     simp only[Option.some.injEq]at h
     subst h
     obtain⟨q,hq,hqr⟩:=pJ (P:=P) (w:=w) (m:=m) hkd (bb hT hud w) hen hf
     have hq0:q=none:=by cases q<;>simp at hqr;rfl
     subst hq0
     have hst:=mQ (P:=P) (y:=.map (en.push { key:=aj m kv,val:=aj m v,born:=ck }) (ck+1)) hb (by simp)
     refine⟨D,m,{ w with heap:=w.heap.setIfInBounds (m id).blk (.map (en.push { key:=aj m kv,val:=aj m v,born:=ck }) (ck+1)) },.skip,?_,.inr ⟨rfl,rfl⟩,gc,dk.put hi hd hy rfl ?_ ?_ ?_ rfl rfl rfl⟩
     · have:(Instr.mapUpdate t (aj m (.map id)) (aj m kv) (aj m v)).run P w=.ok () { w with heap:=w.heap.setIfInBounds (m id).blk (.map (en.push { key:=aj m kv,val:=aj m v,born:=ck }) (ck+1)) }:=by
        simp only[Instr.mapUpdate,aj,Sem.run_bind,bb hT (lC hT hmt) w,Result.andThen_ok,hg,hck,hq,hst]
       rcases ho with ho|ho<;>simp only[execOp,ho,e1,e2,e3,Sem.run_bind,this,Result.andThen_ok,Sem.run_pure]
     · simp
     · grind
     · rw[lc _ _ _ _ hb]
       refine⟨_,_,rfl,?_,?_⟩
       · simp[hen]
       · grind
   | some old=>
     simp only[ag,Option.some.injEq]at h
     obtain⟨es',hset,rfl⟩:=h
     obtain⟨j,xv,hfn,⟨e0,he0,hek⟩,hmap⟩:=pL (m:=m) hkd (i:=0) hen hset
     rw[Nat.zero_add]at hfn
     have hq:(Instr.findKey kt (aj m kv) en.toList).run P w=.ok (some (j,xv)) w:=by simp[Instr.findKey,bb hT hud w,hfn]
     have hst:=mQ (P:=P) (y:=.map (en.modify j λe=>{ e with key:=aj m kv,val:=aj m v }) ck) hb (by simp)
     have hek':((en[j]?).map (·.key)).getD (aj m kv)=aj m kv:=by
      grind
     refine⟨D,m,{ w with heap:=w.heap.setIfInBounds (m id).blk (.map (en.modify j λe=>{ e with key:=aj m kv,val:=aj m v }) ck) },.skip,?_,.inr ⟨rfl,rfl⟩,gc,dk.put hi hd hy rfl ?_ ?_ ?_ rfl rfl rfl⟩
     · have:(Instr.mapUpdate t (aj m (.map id)) (aj m kv) (aj m v)).run P w=.ok () { w with heap:=w.heap.setIfInBounds (m id).blk (.map (en.modify j λe=>{ e with key:=aj m kv,val:=aj m v }) ck) }:=by
        simp only[Instr.mapUpdate,aj,Sem.run_bind,bb hT (lC hT hmt) w,Result.andThen_ok,hg,hck,hq,hek',Instr.keyThatStays,tc hkd,if_true,Sem.run_pure,hst]
       rcases ho with ho|ho<;>simp only[execOp,ho,e1,e2,e3,Sem.run_bind,this,Result.andThen_ok,Sem.run_pure]
     · simp
     · grind
     · rw[lc _ _ _ _ hb]
       exact⟨_,_,rfl,by rw[Array.toList_modify];exact hmap,AG o2 o3 hset hoe⟩
theorem Cj{oo:Oper}{t:TypeId}{x ix:Operand}{okv:Bool}{r:AV×aC}(ho:oo.op=.lookup t x ix okv)(h:k_ t x ix okv T C ρ o=some r):o7 P cfg C D m o w ev oo r:=by
 simp only[k_,bF,xT,ag,ay]at h
 obtain⟨⟨mv,hmv,kv,hkv,⟨kt,et⟩,hmt,hkd,h⟩,hr⟩:=h
 simp only at hkd h
 obtain⟨e1,o1⟩:=hρ x _ hmv
 obtain⟨e2,o2⟩:=hρ ix _ hkv
 cases mv<;>simp only[oF,reduceCtorEq,ag]at h
 rename_i id
 have hd:D id:=(o1 (id,0) (by simp[aq])).1
 obtain⟨es,hes,rr,hf,h⟩:=h
 have hob:=hi.obj id hd
 cases hy:get C o id<;>simp only[hy,jN,reduceCtorEq,Option.some.injEq]at hes
 subst hes
 rw[hy]at hob
 obtain⟨en,ck,hb,hen,hoe⟩:=hob
 cases hud:T.und kt with
 | none=>rw[hud]at hkd;simp[nZ]at hkd
 | some d=>
   rw[hud]at hkd
   obtain⟨q,hq,hqr⟩:=pJ (P:=P) (w:=w) (m:=m) hkd (bb hT hud w) hen hf
   have hck:=oa (P:=P) (w:=w) (m:=m) (b:=en.isEmpty) hkd (bb hT hud w)
   have hg:=mY (P:=P) hb (by simp)
   cases rr with
   | some v=>
     simp only[Option.some.injEq]at h
     have hv:=tX hf hoe
     cases q with
     | none=>simp at hqr
     | some q=>
       simp only[Option.map_some,Option.some.injEq]at hqr
       refine fo.pure hi hr ?_ ?_
       · rw[<-h]
         simp only[execOp,ho,e1,e2,aj,Instr.lookup,Sem.run_bind,bb hT (lC hT hmt) w,Result.andThen_ok,hg,hck,hq,Sem.run_pure]
         cases okv<;>simp[lS,aj,ar,hqr]
       · rw[<-h]
         cases okv
         · exact hv
         · exact eU.2 (cq.2 ⟨hv,cq.2 ⟨nw,eL⟩⟩)
   | none=>
     simp only[ag,Option.some.injEq]at h
     obtain⟨z,hz,h⟩:=h
     obtain⟨hz1,hz2⟩:=jO hT (m:=m) hz w
     have hq0:q=none:=by cases q<;>simp at hqr;rfl
     subst hq0
     refine fo.pure hi hr ?_ ?_
     · rw[<-h]
       simp only[execOp,ho,e1,e2,aj,Instr.lookup,Sem.run_bind,bb hT (lC hT hmt) w,Result.andThen_ok,hg,hck,hq,Sem.run_pure,hz1]
       cases okv<;>simp[lS,aj,ar]
     · rw[<-h]
       cases okv
       · exact bQ hz2
       · exact eU.2 (cq.2 ⟨bQ hz2,cq.2 ⟨nw,eL⟩⟩)
theorem Dm{oo:Oper}{t:TypeId}{x:Operand}{r:AV×aC}(ho:oo.op=.range t x)(h:oN t x T C ρ o=some r):o7 P cfg C D m o w ev oo r:=by
 simp only[oN,ag]at h
 obtain⟨v,hv,h⟩:=h
 obtain⟨e1,o1⟩:=hρ x _ hv
 cases v<;>simp only[zD,reduceCtorEq,ay,Option.some.injEq]at h
 rename_i s
 obtain⟨hs,rfl⟩:=h
 have he':=dk.fresh1 hi (.siter s 0) ⟨w.heap.size,0,0⟩ (.stringIter ⟨⟨s⟩⟩ 0) rfl rfl rfl rfl rfl ⟨rfl,rfl⟩
 refine⟨_,_,_,.value (.pointer (some ⟨w.heap.size,0,none⟩)),?_,.inl ?_,q6,he'⟩
 · simp only[execOp,ho,e1,aj,Instr.range,Sem.run_bind,bb hT (qG hs) w,Result.andThen_ok,Sem.run_pure,run_newObj];rfl
 · simp[aj,aC.next,eN]
omit hT in
theorem I1{oo:Oper}{it:Operand}{s:Bool}{r:AV×aC}(ho:oo.op=.next it s)(h:ns it s T C ρ o=some r):o7 P cfg C D m o w ev oo r:=by
 simp only[ns,ay,ag]at h
 obtain⟨rfl,v,hv,h⟩:=h
 obtain⟨e1,o1⟩:=hρ it _ hv
 unfold xW at h
 split at h
 · rename_i id
   simp only[ag]at h
   obtain⟨y,hy,h⟩:=h
   have hd:D id:=(o1 (id,0) (by simp[aq])).1
   cases y<;>simp only[nP,reduceCtorEq,Option.some.injEq]at h
   rename_i s pos
   subst h
   have hob:=hi.obj id hd
   rw[e7 hy]at hob
   obtain⟨hob,hbase⟩:=hob
   have hg:=mY (P:=P) hob (by simp)
   have hsz:(ByteArray.mk ⟨s⟩).size=s.length:=rfl
   unfold y5
   cases hlt:bm pos s.length with
   | true=>
     have hp:=ba.1 hlt
     simp only[cond_true]
     have hst:=mQ (P:=P) (y:=.stringIter ⟨⟨s⟩⟩ (pos+(Utf8.decode ⟨⟨s⟩⟩ pos).2)) hob (by simp)
     refine⟨D,m,{ w with heap:=w.heap.setIfInBounds (m id).blk (.stringIter ⟨⟨s⟩⟩ (pos+(Utf8.decode ⟨⟨s⟩⟩ pos).2)) },.value (.tuple #[.bool true,.int .i64 pos,.int .i32 (Utf8.decode ⟨⟨s⟩⟩ pos).1]),?_,.inl ?_,?_,dk.put hi hd hy rfl ?_ ?_ ?_ rfl rfl rfl⟩
     · simp only[execOp,ho,e1,aj,hbase,Instr.next,Sem.run_bind,hg,Result.andThen_ok,hsz,if_pos hp,hst,Sem.run_pure,Go.goInt]
     · simp[aj,ar,fg,BM]
     · exact eU.2 (cq.2 ⟨nw,cq.2 ⟨by rw[fg];exact qu,cq.2 ⟨by rw[BM];exact qu,eL⟩⟩⟩)
     · simp
     · grind
     · rw[lc _ _ _ _ hob];exact⟨rfl,hbase⟩
   | false=>
     have hp:¬pos<s.length:=by have:=k8.1 hlt;omega
     simp only[cond_false]
     refine fo.pure hi rfl ?_ (eU.2 (cq.2 ⟨nw,eL⟩))
     simp only[execOp,ho,e1,aj,hbase,Instr.next,Sem.run_bind,hg,Result.andThen_ok,hsz,if_neg hp,Sem.run_pure,ar]
 · cases h
end
end Go.Ev
