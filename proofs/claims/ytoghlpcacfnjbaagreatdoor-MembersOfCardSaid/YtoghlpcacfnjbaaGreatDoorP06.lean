import Derived.Laws.IdiomStrings
import Derived.Test.YtoghlpcacfnjbaaGreatDoorP05
set_option linter.all false
set_option maxRecDepth 100000
set_option maxHeartbeats 4000000
namespace Go.Ev
open Go Go.RowKit
variable{P:Program}{C:bg}{D:Nat->Prop}{m:Nat->bq}{o:aC}{w:World}{r:AV×aC}{oo:Oper}{x ix:Operand}{n:Nat}{l:bq}{k e:AV}
def gI(P:Program)(cfg:cG)(C:bg)(D:Nat->Prop)(m:Nat->bq)(o:aC)(w:World)(s:Sem Next)(r:AV×aC):Prop:=
 ∃D' m' w' nx,s.run P w=.ok nx w'/\(nx=.value (aj m' r.1)\/nx=.skip/\r.1=bo)/\db D' m' r.1/\dk cfg C D m o w D' m' r.2 w'
theorem gI.pure{cfg:cG}{s:Sem Next}(hi:dV cfg D m C o w)(ho:r.2=o)(h:s.run P w=.ok (.value (aj m r.1)) w)(hv:db D m r.1):gI P cfg C D m o w s r:=
 ⟨D,m,w,_,h,.inl rfl,hv,by rw[ho];exact dk.refl hi⟩
def lJ(D:Nat->Prop)(m:Nat->bq)(ρ:Operand->Option AV)(ev:Operand->Value):Prop:=∀x v,ρ x=some v->ev x=aj m v/\db D m v
theorem tO{D:Nat->Prop}{m:Nat->bq}{ρ:Operand->Option AV}{ev:Operand->Value}(hρ:lJ D m ρ ev):∀{xs:List Operand} {vs:List AV},gx ρ xs=some vs->xs.map ev=ap m vs/\fN D m vs
 | [],vs,h=>by cases h;exact⟨by simp[ap],fH⟩
 | x::xs,vs,h=>by
   simp only[gx,ai,Option.some.injEq]at h;obtain⟨v,hv,vs',hvs,rfl⟩:=h;obtain⟨h1,h2⟩:=hρ x v hv;obtain⟨h3,h4⟩:=tO hρ hvs;exact⟨by simp[ap,h1,h3],ct.2 ⟨h2,h4⟩⟩
theorem kC{ρ:Operand->Option AV}{ev:Operand->Value}(hρ:lJ D m ρ ev){xs:Array Operand}{vs:List AV}(h:gx ρ xs.toList=some vs):xs.map ev=(ap m vs).toArray/\fN D m vs:=by
 obtain⟨h1,h2⟩:=tO hρ h;refine⟨?_,h2⟩;apply Array.toList_inj.1;simpa using h1
theorem oA{D:Nat->Prop}{m:Nat->bq}{ρ:Operand->Option AV}{ev:Operand->Value}(hρ:lJ D m ρ ev):∀{xs:List (Nat×Operand)} {ps:List (Nat×AV)},oF ρ xs=some ps->xs.map (λp=>(p.1,ev p.2))=ps.map (λp=>(p.1,aj m p.2))/\∀p∈ps,db D m p.2
 | [],ps,h=>by cases h;simp
 | x::xs,ps,h=>by
   simp only[oF,ai,Option.some.injEq]at h;obtain⟨v,hv,ps',hps,rfl⟩:=h;obtain⟨h1,h2⟩:=hρ _ v hv;obtain⟨h3,h4⟩:=oA hρ hps;refine⟨by simp[h1,h3],λp hp=>?_⟩;rcases List.mem_cons.1 hp with rfl|hp
   . exact h2
   . grind
theorem tc{ρ:Operand->Option AV}{ev:Operand->Value}(hρ:lJ D m ρ ev){x:Option Operand}{v:Option AV}(h:xU ρ x=some v):x.map ev=v.map (aj m):=by
 cases x with
 | none=>cases h;rfl
 | some x=>
   simp only[xU,ai,Option.some.injEq]at h;obtain⟨u,hu,rfl⟩:=h;simp[(hρ x u hu).1]
theorem qX{v:AV}(h:aD v=[]):fN D m (bU v):=pt (bQ h)
section
variable{P:Program}{T:fb}(hT:fF P T){cfg:cG}{C:bg}{D:Nat->Prop}{m:Nat->bq}{o:aC}{w:World}(hi:dV cfg D m C o w){ρ:Operand->Option AV}{ev:Operand->Value}(hρ:lJ D m ρ ev)
include hT hi hρ
theorem wQ:∀{fs:List Field} {pl:List (Nat×Nat)},wb T fs=some pl->∀w,(fs.mapM (λf=>(do pure (f.offset,<-sizeOf f.type):Sem (Nat×Nat)))).run P w=.ok pl w
 | [],pl,h,w=>by cases h;simp
 | f::fs,pl,h,w=>by
   simp only[wb,ai,Option.some.injEq]at h;obtain⟨n,hn,r,hr,rfl⟩:=h;simp only[List.mapM_cons,Sem.run_bind,ek hT hn w,Result.andThen_ok,Sem.run_pure,wQ hr w]
theorem J7{t:TypeId}{parts:Array (Nat×Operand)}{v:AV}(h:A1 T ρ t parts.toList=some v):(Instr.build t (parts.map λ(i,x)=>(i,ev x))).run P w=.ok (aj m v) w/\db D m v:=by
 simp only[A1,ai]at h;obtain⟨z,hz,ps,hps,h⟩:=h;obtain⟨hzr,hz0⟩:=l_ hT (m:=m) hz w;obtain⟨hp1,hp2⟩:=oA hρ hps;have hparts:(parts.map λ(x:Nat×Operand)=>(x.1,ev x.2)).toList=ps.map λp=>(p.1,aj m p.2):=by simpa using hp1
 cases hu:T.und t with
 | none=>simp[hu,EO]at h
 | some d=>
   cases d<;>simp only[hu,EO,reduceCtorEq,ai,Option.some.injEq]at h
   . rename_i n elem;obtain⟨sz,hsz,cs,hcs,rfl⟩:=h;refine⟨?_,iJ.2 (q_ hcs (qX hz0) hp2)⟩;have hf:=pj (m:=m) hcs;simp only[Instr.build,Sem.run_bind,hzr,Result.andThen_ok,bc hT hu w,ek hT hsz w,fG,hparts,hf,Sem.run_pure,aj]
   . rename_i fields;obtain⟨pl,hpl,cs,hcs,rfl⟩:=h;refine⟨?_,iJ.2 (q_ hcs (qX hz0) hp2)⟩;have hm:(fields.mapM (λf=>(do pure (f.offset,<-sizeOf f.type):Sem (Nat×Nat)))).run P w=.ok pl.toArray w:=by
      rw[Array.mapM_eq_mapM_toList,Sem.run_map,wQ hT hi hρ hpl w];rfl
     have hf:=pj (m:=m) hcs;have hp:(λi:Nat=>pl.toArray[i]?)=λi:Nat=>pl[i]? := by funext i;simp
     simp only[Instr.build,Sem.run_bind,hzr,Result.andThen_ok,bc hT hu w,fG,hparts,hm,hp,hf,Sem.run_pure,aj]
abbrev tG(P:Program)(cfg:cG)(C:bg)(D:Nat->Prop)(m:Nat->bq)(o:aC)(w:World)(ev:Operand->Value)(oo:Oper)(r:AV×aC):Prop:=gI P cfg C D m o w (execOp ev oo) r
omit hT in
theorem E8(ho:oo.op=.move x\/oo.op=.assign x)(h:sM x T C ρ o=some r):tG P cfg C D m o w ev oo r:=by
 simp only[sM,bN]at h;obtain⟨h1,h2⟩:=hρ x _ h.1;exact gI.pure hi h.2 (by rcases ho with ho|ho<;>simp[execOp,ho,h1]) h2
omit hT in
theorem N2{c a b:Operand}(ho:oo.op=.pick c a b)(h:xM c a b T C ρ o=some r):tG P cfg C D m o w ev oo r:=by
 simp only[xM,bN,ai]at h;obtain⟨⟨cv,hc,h⟩,h2⟩:=h;have h3:=(hρ c _ hc).1;cases cv<;>simp only[GF,reduceCtorEq]at h;rename_i b';cases b'<;>simp only[GF]at h
 . obtain⟨h4,h5⟩:=hρ b _ h;exact gI.pure hi h2 (by simp[execOp,ho,h3,h4,aj,asBool]) h5
 . obtain⟨h4,h5⟩:=hρ a _ h;exact gI.pure hi h2 (by simp[execOp,ho,h3,h4,aj,asBool]) h5
theorem Ik{t:TypeId}{parts:Array (Nat×Operand)}(ho:oo.op=.build t parts)(h:vN t parts T C ρ o=some r):tG P cfg C D m o w ev oo r:=by
 simp only[vN,bN]at h;obtain⟨h1,h2⟩:=J7 hT hi hρ h.1;exact gI.pure hi h.2 (by simp only[execOp,ho,Sem.run_bind,h1,Result.andThen_ok,Sem.run_pure]) h2
theorem MI{t:TypeId}{a:Operand}(ho:oo.op=.load t a)(h:th t a T C ρ o=some r):tG P cfg C D m o w ev oo r:=by
 simp only[th,bN,ai]at h;obtain⟨⟨p,hp,h⟩,h2⟩:=h;obtain⟨h3,h4⟩:=hρ a _ hp;obtain⟨ad,h5,h6,h7⟩:=zN hT hi h4 h;exact gI.pure hi h2 (by simp only[execOp,ho,Sem.run_bind,h3,h5,Instr.loadAt,Instr.sureAddr,Sem.run_pure,Result.andThen_ok,h6]) h7
omit hT in
theorem CK(ho:oo.op=.nilCheck x)(h:mM x T C ρ o=some r):tG P cfg C D m o w ev oo r:=by
 simp only[mM,bN,ai]at h;obtain⟨⟨p,hp,h⟩,h2⟩:=h;obtain⟨h3,h4⟩:=hρ x _ hp;cases p<;>simp only[zF,reduceCtorEq,Option.some.injEq]at h
 . rw[h]at h4 h3;refine gI.pure hi h2 ?_ h4;rw[<-h]at h3 ⊢;simp only[aj]at h3 ⊢;simp only[execOp,ho,h3,Sem.run_pure]
 . rw[h]at h4 h3;refine gI.pure hi h2 ?_ h4;rw[<-h]at h3 ⊢;simp only[aj]at h3 ⊢;simp only[execOp,ho,h3,Sem.run_pure]
theorem SI{op:BinOp}{t yt:TypeId}{y:Operand}(ho:oo.op=.binOp op t x y yt)(h:CC op t x y T C ρ o=some r):tG P cfg C D m o w ev oo r:=by
 simp only[CC,bN,ai]at h;obtain⟨⟨a,ha,b,hb,h⟩,h2⟩:=h;obtain⟨h3,_⟩:=hρ x _ ha;obtain⟨h4,_⟩:=hρ y _ hb;obtain⟨h5,h6⟩:=K8 hT (m:=m) h w;exact gI.pure hi h2 (by simp only[execOp,ho,h3,h4];rw[Sem.run_bind,h5];rfl) (bQ h6)
omit hT in
theorem Ws{op:UnOp}{t:TypeId}(ho:oo.op=.unOp op t x)(h:IO op x T C ρ o=some r):tG P cfg C D m o w ev oo r:=by
 simp only[IO,bN,ai]at h;obtain⟨⟨a,ha,h⟩,h2⟩:=h;obtain⟨h3,_⟩:=hρ x _ ha;obtain⟨h5,h6⟩:=NQ (P:=P) (m:=m) h w;exact gI.pure hi h2 (by simp only[execOp,ho,h3,Sem.run_bind,h5,Result.andThen_ok,Sem.run_pure]) (bQ h6)
theorem JL{t:TypeId}(ho:oo.op=.makeInterface t x)(h:wj t x T C ρ o=some r):tG P cfg C D m o w ev oo r:=by
 simp only[wj,bN,ai,w_]at h;obtain⟨⟨v,hv,h⟩,h2⟩:=h;obtain⟨h3,h4⟩:=hρ x _ hv;split at h<;>simp only[reduceCtorEq,Option.some.injEq]at h;rename_i d hne hu;refine gI.pure hi h2 ?_ (by rw[<-h];exact h4);rw[<-h];simp only[execOp,ho,h3,Instr.makeInterface,Sem.run_bind,bc hT hu w,Result.andThen_ok,aj];cases d<;>first|rfl|exact absurd rfl (hne _)
omit hT in
theorem M5{fn:Fn}{first captured:Array Operand}(ho:oo.op=.makeFunc fn first captured)(h:Bz fn first captured T C ρ o=some r):tG P cfg C D m o w ev oo r:=by
 simp only[Bz,bN]at h;obtain⟨h,h2⟩:=h;cases fn<;>simp only[sW,reduceCtorEq,ai,Option.some.injEq]at h;obtain⟨a,ha,b,hb,h⟩:=h;obtain⟨h3,h4⟩:=kC hρ ha;obtain⟨h5,h6⟩:=kC hρ hb;refine gI.pure hi h2 ?_ ?_
 . rw[<-h];simp[execOp,ho,Instr.makeFunc,h3,h5,aj]
 . rw[<-h];intro i hm;simp only[aD,List.mem_append]at hm;rcases hm with hm|hm
   . exact h4 i hm
   . exact h6 i hm
theorem Im{t:TypeId}{lo hi' mx:Option Operand}(ho:oo.op=.slice t x lo hi' mx)(h:qW t x lo hi' mx T C ρ o=some r):tG P cfg C D m o w ev oo r:=by
 simp only[qW,bN,ai]at h;obtain⟨⟨v,hv,l,hl,hh,hhh,mm,hmm,h⟩,h2⟩:=h;obtain⟨h3,h4⟩:=hρ x _ hv;obtain⟨h5,h6⟩:=Dn hT h4 h w;exact gI.pure hi h2 (by simp only[execOp,ho,h3,tc hρ hl,tc hρ hhh,tc hρ hmm,Sem.run_bind,h5,Result.andThen_ok,Sem.run_pure]) h6
theorem Bv{s:TypeId}{f:Nat}(ho:oo.op=.fieldAddr s x f)(h:kY s x f T C ρ o=some r):tG P cfg C D m o w ev oo r:=by
 simp only[kY,bN,ai]at h;obtain⟨⟨v,hv,h⟩,h2⟩:=h;obtain⟨h3,h4⟩:=hρ x _ hv;obtain⟨h5,h6⟩:=y8 hT h4 h w;exact gI.pure hi h2 (by simp only[execOp,ho,h3,Sem.run_bind,h5,Result.andThen_ok,Sem.run_pure]) h6
theorem Il{s:TypeId}{f:Nat}(ho:oo.op=.field s x f)(h:vY s x f T C ρ o=some r):tG P cfg C D m o w ev oo r:=by
 simp only[vY,bN,ai]at h;obtain⟨⟨v,hv,h⟩,h2⟩:=h;obtain⟨h3,h4⟩:=hρ x _ hv;obtain⟨h5,h6⟩:=H5 hT h4 h w;exact gI.pure hi h2 (by simp only[execOp,ho,h3,Sem.run_bind,h5,Result.andThen_ok,Sem.run_pure]) h6
omit hT hi hρ in
theorem zi{v:AV}(h:Hx v=some n):∃k,v=.int k (.ofNat n):=by
 unfold Hx at h;split at h
 . simp_all
 . cases h
theorem AQ{t:TypeId}(ho:oo.op=.indexAddr t x ix)(h:jz t x ix T C ρ o=some r):tG P cfg C D m o w ev oo r:=by
 simp only[jz,bN,ai]at h;obtain⟨⟨v,hv,i,hix,n,hn,h⟩,h2⟩:=h;obtain⟨k,rfl⟩:=zi hn;obtain⟨h3,h4⟩:=hρ x _ hv;obtain⟨h7,_⟩:=hρ ix _ hix;obtain⟨h5,h6⟩:=zc hT (k:=k) h4 h w;exact gI.pure hi h2 (by simp only[execOp,ho,h3,h7,aj,Int.ofNat_eq_natCast,Sem.run_bind,h5,Result.andThen_ok,Sem.run_pure]) h6
theorem KI{t:TypeId}(ho:oo.op=.index t x ix)(h:qG t x ix T C ρ o=some r):tG P cfg C D m o w ev oo r:=by
 simp only[qG,bN,ai]at h;obtain⟨⟨v,hv,i,hix,n,hn,h⟩,h2⟩:=h;obtain⟨k,rfl⟩:=zi hn;obtain⟨h3,h4⟩:=hρ x _ hv;obtain⟨h7,_⟩:=hρ ix _ hix;obtain⟨h5,h6⟩:=GS hT (k:=k) h4 h w;exact gI.pure hi h2 (by simp only[execOp,ho,h3,h7,aj,Int.ofNat_eq_natCast,Sem.run_bind,h5,Result.andThen_ok,Sem.run_pure]) h6
omit hT in
theorem EM{t:Operand}{i:Nat}(ho:oo.op=.extract t i)(h:oH t i T C ρ o=some r):tG P cfg C D m o w ev oo r:=by
 simp only[oH,bN,ai]at h;obtain⟨⟨v,hv,h⟩,h2⟩:=h;obtain⟨h3,h4⟩:=hρ t _ hv;cases v<;>simp only[Dj,reduceCtorEq]at h;rename_i vs;refine gI.pure hi h2 ?_ (dK.1 (fV.1 h4) _ (List.mem_of_getElem? h));simp[execOp,ho,h3,aj,Instr.extract,fZ,h]
end
theorem alloc_heap_new(w:World)(x:Obj):(w.alloc x).heap[w.heap.size]? = some x:=by
 show(w.heap.push x)[w.heap.size]? = _;simp
theorem dk.fresh1{cfg:cG}{w0:World}(hi:dV cfg D m C o w)(x:aE)(l:bq)(b:Obj)(hw:w0.heap=w.heap)(hos:w0.os=w.os)(ht:w0.tape=w.tape)(hu:w0.output=w.output)(hl:l.blk=w.heap.size)(hx:cS D m l x (some b)) :
 dk cfg C D m o w (wV D (C.lo+o.n)) (zm m (C.lo+o.n) l) (o.push x) (w0.alloc b):=by
 refine dk.alloc hi (by simp[hw]) (λk hk=>?_) (by omega) ?_ hos ht hu
 . rw[Below.heap_alloc w0 b k (by rw[hw];exact hk),hw]
 . rw[hl,<-hw,alloc_heap_new];exact hx
theorem s_:wV D n n:=.inr rfl
theorem tr{cs:List AV}{rw:Bool}{e:TypeId}(hb:l.base=0)(ho:fN D m cs):cS D m l (.cells cs rw none) (some (.cells (ap m cs).toArray e)):=
 ⟨_,e,(0,0),rfl,⟨λi v hv=>by rw[hb,Nat.zero_add];simp[fZ,hv],ho,λ_=>rfl,λs hs=>by cases hs⟩⟩
theorem xt{off:Nat}:db (wV D n) (zm m n l) (.ptr n off):=λi hi=>by
 simp only[aD,List.mem_singleton]at hi;subst hi;exact⟨s_,Nat.zero_le _⟩
theorem x5(z:List AV):∀k,(m6 z k).length=k*z.length
 | 0=>by simp[m6]
 | k+1=>by rw[m6,List.length_append,x5 z k,Nat.succ_mul,Nat.add_comm]
theorem Df(z:List AV)(hz:0<z.length):∀k i,i<k*z.length->(m6 z k)[i]? = z[i%z.length]?
 | 0,i,h=>by simp at h
 | k+1,i,h=>by
   rw[m6,List.getElem?_append];by_cases hi:i<z.length
   . rw[if_pos hi,Nat.mod_eq_of_lt hi]
   . rw[if_neg hi,Df z hz k (i-z.length) (by rw[Nat.succ_mul]at h;omega),<-Nat.mod_eq_sub_mod (by omega)]
theorem BY(z:List AV)(hz:0<z.length)(k n:Nat)(hn:n=k*z.length) :
 (Array.range n).map (λi=>(ap m z).toArray[i%(ap m z).toArray.size]!)=(ap m (m6 z k)).toArray:=by
 subst hn;apply Array.ext
 . simp[b_,x5]
 . intro i h1 h2;have hi:i<k*z.length:=by simpa using h1
   have hm:i%z.length<z.length:=Nat.mod_lt _ hz;have h3:(ap m (m6 z k))[i]? = (ap m z)[i%z.length]? := by rw[fZ,fZ,Df z hz k i hi]
   simp only[Array.getElem_map,Array.getElem_range,List.size_toArray,b_,List.getElem_toArray];have h4:i%z.length<(ap m z).length:=by rw[b_];exact hm
   have h5:i<(ap m (m6 z k)).length:=by rw[b_,x5];exact hi
   rw[List.getElem?_eq_getElem h5,List.getElem?_eq_getElem h4,Option.some.injEq]at h3;rw[h3];simp[h4]
theorem BJ{D:Nat->Prop}{m:Nat->bq}{z:List AV}(hz:fN D m z):∀k,fN D m (m6 z k)
 | 0=>fH
 | k+1=>eA.2 ⟨hz,BJ hz k⟩
section
variable{P:Program}{T:fb}(hT:fF P T){cfg:cG}{C:bg}{D:Nat->Prop}{m:Nat->bq}{o:aC}{w:World}(hi:dV cfg D m C o w){ρ:Operand->Option AV}{ev:Operand->Value}(hρ:lJ D m ρ ev)
include hT hi hρ
omit hT hρ in
theorem C7{s:Sem Next}{v:AV}{e:TypeId}(hv:db D m v)(hs:s.run P w=.ok (.value (.pointer (some ⟨w.heap.size,0,none⟩))) (w.alloc (.cells (aj m v).cells e)))(h:lA C o v=some r):gI P cfg C D m o w s r:=by
 simp only[lA,aA,Option.some.injEq]at h;obtain⟨_,rfl⟩:=h;have he:=dk.fresh1 hi (.cells (bU v) true none) ⟨w.heap.size,0,0⟩ (.cells (aj m v).cells e) rfl rfl rfl rfl rfl (by rw[fG];exact tr rfl (pt hv));refine⟨_,_,_,_,hs,.inl ?_,xt,he⟩;simp[aj,aC.next,fM]
theorem LZ{t:TypeId}(ho:oo.op=.alloc t)(h:pB t T C ρ o=some r):tG P cfg C D m o w ev oo r:=by
 simp only[pB,ai]at h;obtain⟨z,hz,h⟩:=h;obtain⟨h1,h2⟩:=l_ hT (m:=m) hz w;refine C7 (e:=t) hi (bQ h2) ?_ h;simp[execOp,ho,Instr.alloc,h1,newVar,newRow]
omit hT in
theorem SB{t:TypeId}(ho:oo.op=.box t x)(h:yg x T C ρ o=some r):tG P cfg C D m o w ev oo r:=by
 simp only[yg,ai]at h;obtain⟨v,hv,h⟩:=h;obtain⟨h3,h4⟩:=hρ x _ hv;refine C7 (e:=t) hi h4 ?_ h;simp[execOp,ho,Instr.box,h3,newVar,newRow]
theorem yR{t:TypeId}{len:Nat}{parts:Array (Nat×Operand)}(ho:oo.op=.buildSlice t len parts)(h:fL t len parts T C ρ o=some r):tG P cfg C D m o w ev oo r:=by
 simp only[fL,h_,ai,aA,Bool.and_eq_true,bv,cO,aS,Option.some.injEq]at h;obtain⟨elem,he,n,hn,z,hz,ps,hps,⟨⟨hb,hl⟩,h0⟩,cs,hcs,_,rfl⟩:=h;obtain⟨hp1,hp2⟩:=oA hρ hps;obtain⟨hz1,hz2⟩:=l_ hT (m:=m) hz w;have hparts:(parts.map λ(x:Nat×Operand)=>(x.1,ev x.2)).toList=ps.map λp=>(p.1,aj m p.2):=by simpa using hp1
 have hf:=pj (m:=m) hcs;have hok:=q_ (D:=D) (m:=m) hcs (BJ (qX hz2) len) hp2;have he':=dk.fresh1 hi (.cells cs true none) ⟨w.heap.size,0,0⟩ (.cells (ap m cs).toArray elem) rfl rfl rfl rfl rfl (tr rfl hok);refine⟨_,_,_,.value (.slice (some ⟨w.heap.size,0,none⟩) len len),?_,.inl ?_,?_,he'⟩
 . have h1:¬(len*n > 2^24):=by omega
   by_cases hlz:len*n=0
   . have hln:len=0:=by rcases Nat.mul_eq_zero.1 hlz with h|h<;>omega
     subst hln;simp only[m6,ap]at hf;simp only[execOp,ho,Instr.buildSlice,Sem.run_bind,bc hT (fq he) w,Result.andThen_ok,ek hT hn w,hparts];have e0:∀f:Nat->Value,(Array.range 0).map f=#[]:=λf=>by apply Array.toList_inj.1;simp
     simp only[Nat.zero_mul,if_true,gt_iff_lt,Nat.not_lt_zero,if_false,Sem.run_pure,Result.andThen_ok,e0,hf];simp[newRow]
   . have hrep:=BY (m:=m) (bU z) (by omega) len (len*n) (by rw[hl]);simp only[execOp,ho,Instr.buildSlice,Sem.run_bind,bc hT (fq he) w,Result.andThen_ok,ek hT hn w,if_neg h1,hparts,Sem.run_pure,if_neg hlz,hz1,fG,hrep,hf];simp[newRow]
 . simp[aj,jA,aC.next,fM]
 . intro i hm;simp only[aD,List.mem_singleton,fj]at hm;subst hm;exact⟨s_,Nat.zero_le _⟩
omit hT in
theorem D7{t:TypeId}{x:Option Operand}(ho:oo.op=.makeMap t x)(h:o6 x T C ρ o=some r):tG P cfg C D m o w ev oo r:=by
 simp only[o6,aA,Option.some.injEq,Option.isNone_iff_eq_none]at h;obtain⟨rfl,rfl⟩:=h;have he':=dk.fresh1 hi (.map []) ⟨w.heap.size,0,0⟩ (.map #[] 0) rfl rfl rfl rfl rfl ⟨#[],0,rfl,rfl,λe hm=>by cases hm⟩;refine⟨_,_,_,.value (.map (some w.heap.size)),?_,.inl ?_,?_,he'⟩
 . simp[execOp,ho,Instr.makeMap]
 . simp[aj,aC.next,fM]
 . intro i hm;simp only[aD,List.mem_singleton]at hm;subst hm;exact⟨s_,Nat.zero_le _⟩
theorem II{t:TypeId}{a:Operand}(ho:oo.op=.store t a x)(h:oY t a x T C ρ o=some r):tG P cfg C D m o w ev oo r:=by
 simp only[oY,ai,Option.some.injEq]at h;obtain⟨p,hp,v,hv,o',hs,rfl⟩:=h;obtain⟨h1,h2⟩:=hρ a _ hp;obtain⟨h3,h4⟩:=hρ x _ hv;obtain⟨w',hr,he⟩:=DN hT hi h2 h4 hs;exact⟨D,m,w',.skip,by simp only[execOp,ho,h1,h3,Sem.run_bind,hr,Result.andThen_ok,Sem.run_pure],.inr ⟨rfl,rfl⟩,ik,he⟩
end
theorem C5{v:AV}{b:UInt8}(h:wG v=some b):v=.int .u8 (.ofNat b.toNat):=by
 unfold wG at h;split at h
 . simp only[aA,aS,Option.some.injEq]at h;obtain⟨h1,rfl⟩:=h;rw[UInt8.toNat_ofNat_of_lt' h1]
 . cases h
theorem p8:∀{vs:List AV} {s:List UInt8},lY vs=some s->vs=s.map jt
 | [],s,h=>by cases h;rfl
 | v::vs,s,h=>by
   simp only[lY,ai,Option.some.injEq]at h;obtain⟨b,hb,s',hs,rfl⟩:=h;rw[C5 hb,p8 hs];rfl
theorem CU(w:World)(need old:Nat)(e:TypeId)(h:need<2^63):need<=grownCap w need old e:=by
 unfold grownCap Question.cut;simp
section
variable{P:Program}{T:fb}(hT:fF P T){cfg:cG}{C:bg}{D:Nat->Prop}{m:Nat->bq}{o:aC}{w:World}(hi:dV cfg D m C o w){ρ:Operand->Option AV}{ev:Operand->Value}(hρ:lJ D m ρ ev)
include hT hi hρ
omit hi hρ in
theorem wN{e:TypeId}(h:mP (T.und e)):T.und e=some (.int .u8):=by
 cases hu:T.und e with
 | none=>simp[hu,mP]at h
 | some d=>
   cases d<;>simp[hu,mP]at h;rename_i k;cases k<;>simp at h;rfl
omit hi hρ in
theorem zA{t:TypeId}(h:yY (T.und t)):T.und t=some .string:=vP h
theorem Ep{src dst:TypeId}(ho:oo.op=.convert src dst x)(h:ij src dst x T C ρ o=some r):tG P cfg C D m o w ev oo r:=by
 simp only[ij,ai]at h;obtain⟨v,hv,h⟩:=h;obtain⟨h1,h2⟩:=hρ x _ hv;cases v<;>simp only[jr,reduceCtorEq,aA,bN]at h
 case int k n=>
  obtain⟨hs,h,h3⟩:=h;obtain⟨d,hd⟩:=Option.isSome_iff_exists.1 hs;cases hu:T.und dst with
  | none=>simp[hu,wv]at h
  | some d'=>
    cases d'<;>simp only[hu,wv,reduceCtorEq,rU,Option.some.injEq]at h
    . refine gI.pure hi h3 ?_ (bQ (by rw[<-h];simp[aD]));rw[<-h];simp only[execOp,ho,h1,convert,Sem.run_bind,bc hT hd w,bc hT hu w,Result.andThen_ok,aj,Conv.intToInt,Sem.run_pure]
    . refine gI.pure hi h3 ?_ (bQ (by rw[<-h];simp[aD]));rw[<-h];simp only[execOp,ho,h1,convert,Sem.run_bind,bc hT hd w,bc hT hu w,Result.andThen_ok,aj,Conv.intToString,Sem.run_pure]
 case str s=>
  obtain⟨hs,h⟩:=h;have hsu:=zA hT hs;cases hu:T.und dst with
  | none=>simp[hu,oM]at h
  | some d'=>
    cases d'<;>simp only[hu,oM,reduceCtorEq,Option.some.injEq,aA,Bool.and_eq_true,bv]at h
    . subst h;refine gI.pure hi rfl ?_ h2;simp only[execOp,ho,h1,convert,Sem.run_bind,bc hT hsu w,bc hT hu w,Result.andThen_ok,aj,Sem.run_pure]
    . rename_i e;obtain⟨⟨hb,hl⟩,rfl⟩:=h;have hbu:=wN hT hb;have hr:=run_bytes_of_string (P:=P) w src dst e ⟨⟨s⟩⟩ (ju hT hsu) (ju hT hu) (ju hT hbu);have hge:=CU w s.length 0 e (by omega);have hat:∀(i:Nat) (v:AV),(s.map jt)[i]? = some v->(bytesRow ⟨⟨s⟩⟩ (grownCap w (ByteArray.mk ⟨s⟩).size 0 e))[0+i]? = some (aj m v):=by
       intro i v hiv;rw[List.getElem?_map]at hiv;obtain⟨b,hb',rfl⟩:=Option.map_eq_some_iff.1 hiv;obtain⟨hlt,hbe⟩:=List.getElem?_eq_some_iff.1 hb';rw[Nat.zero_add,bytesRow_at _ _ i (by simpa using hlt)];simp[aj,jt,hbe]
      have hokb:fN D m (s.map jt):=by
       rw[dK];intro v hm;obtain⟨b,_,rfl⟩:=List.mem_map.1 hm;exact bQ (by simp[jt,aD])
      have he:=dk.fresh1 hi (.cells (s.map jt) false none) ⟨w.heap.size,0,grownCap w s.length 0 e⟩ (.cells (bytesRow ⟨⟨s⟩⟩ (grownCap w (ByteArray.mk ⟨s⟩).size 0 e)) e ((bytesRow ⟨⟨s⟩⟩ (grownCap w (ByteArray.mk ⟨s⟩).size 0 e)).size,(bytesRow ⟨⟨s⟩⟩ (grownCap w (ByteArray.mk ⟨s⟩).size 0 e)).size+1)) (w0:=w.drew) rfl rfl rfl rfl rfl
       ⟨_,_,_,rfl,⟨hat,hokb,(λh=>by cases h),(λs h=>by cases h)⟩⟩
      refine⟨_,_,_,.value (.slice (some ⟨w.heap.size,0,none⟩) (ByteArray.mk ⟨s⟩).size (grownCap w (ByteArray.mk ⟨s⟩).size 0 e)),?_,.inl ?_,?_,he⟩
      . simp only[execOp,ho,h1,aj,Sem.run_bind,hr,Result.andThen_ok,Sem.run_pure]
      . simp only[aj,jA,aC.next,fM,Nat.sub_zero,Nat.add_zero];rfl
      . intro i hm;simp only[aD,List.mem_singleton,fj]at hm;subst hm;refine⟨s_,?_⟩;simp only[aC.next,fM,Nat.add_zero];exact hge
 case slice id off len c=>
  obtain⟨h,h3⟩:=h;have hd:D id:=(h2 (id,fj len c) (by simp[aD])).1;simp only[pD,ai,aA,Bool.and_eq_true,Option.some.injEq,mc]at h;obtain⟨e,he,⟨hb,hst⟩,cs,⟨cs0,hc0,hcs⟩,s,hs,h⟩:=h;have hbu:=wN hT hb;have hsu:=zA hT hst;have hel:=fq he;have hcse:=p8 hs;subst hcse;have hlen:s.length=len:=by
   have:=tD hcs;simpa using this
  refine gI.pure hi h3 ?_ (bQ (by rw[<-h];simp[aD]));rw[<-h];have hr:=run_convert_bytes_back (P:=P) w src dst e ⟨(m id).blk,(m id).base+off,none⟩ (jA (m id) c) s (ju hT hel) (ju hT hbu) (ju hT hsu) (λj hj=>by
   rw[gU,Nat.add_assoc];have hg:=Ag hcs (i:=j) (by omega);rw[List.getElem?_map,List.getElem?_eq_getElem hj]at hg;have:=(hi.cell hd hc0 hg).1;simpa [aj,jt]using this)
  rw[hlen]at hr;simp only[execOp,ho,h1,aj,Sem.run_bind,hr,Result.andThen_ok,Sem.run_pure]
end
theorem wA(n:Nat)(h:n<=10000):IntKind.i64.wrap (n:Int)=(n:Int):=Bs .i64 _ (by simp only[dP];omega) (by simp only[dR];omega)
theorem qf{r:Nat}{x:Obj}(h:w.heap[r]? = some x)(hx:∀c e f,x≠.cells c e f):(getObj r).run P w=.ok x w:=by
 cases x<;>first|exact absurd rfl (hx _ _ _)|simp[getObj,Sem.run,h]
theorem ql{r:Nat}{x y:Obj}(h:w.heap[r]? = some x)(hx:∀c e f,x≠.cells c e f):(setObj r y).run P w=.ok () { w with heap:=w.heap.setIfInBounds r y }:=by
 cases x<;>first|exact absurd rfl (hx _ _ _)|simp[setObj,Sem.run,h]
theorem nS(w:World)(r:Nat)(x y:Obj)(h:w.heap[r]? = some x):({ w with heap:=w.heap.setIfInBounds r y }:World).heap[r]? = some y:=by
 grind
theorem xe{d:TypeDesc}{b:Bool}(hk:rv k (some d))(h:x9 k e=some b):Instr.sameNow d (aj m k) (aj m e)=some b:=by
 cases d<;>simp only[rv,Bool.false_eq_true]at hk<;>cases k<;>simp at hk<;>cases e<;>simp only[x9,reduceCtorEq,aA,ic,Option.some.injEq]at h
 . subst h;simp[Instr.sameNow,aj,mO]
 . obtain⟨rfl,rfl⟩:=h;simp[Instr.sameNow,aj,sV]
 . subst h;simp only[Instr.sameNow,aj,Option.some.injEq,bX];rw[beq_toListBytes,mq,mq]
theorem yw{m:Nat->bq}{d:TypeDesc}{k:AV}(hk:rv k (some d)):∀{es:List (AV×AV)} {en:List MapEntry} {r:Option AV} {i:Nat},en.map (λe=>(e.key,e.val))=es.map (λe=>(aj m e.1,aj m e.2))->pY k es=some r->
 ∃q,Instr.findNow d (aj m k) en i=some q/\q.map (·.2)=r.map (aj m)
 | [],en,r,i,he,h=>by
   cases h;cases en with
   | nil=>exact⟨none,rfl,rfl⟩
   | cons _ _=>simp at he
 | e::es,en,r,i,he,h=>by
   cases en with
   | nil=>simp at he
   | cons n en=>
     simp only[List.map_cons,List.cons.injEq,Prod.mk.injEq]at he;obtain⟨⟨h1,h2⟩,he⟩:=he;simp only[pY,ai]at h;obtain⟨b,hb,h⟩:=h;have hs:=xe (m:=m) hk hb;cases b with
     | true=>
       simp only[cond_true,Option.some.injEq]at h;subst h;exact⟨some (i,n.val),by simp[Instr.findNow,h1,hs],by simp[h2]⟩
     | false=>
       simp only[cond_false]at h;obtain⟨q,hq,hqr⟩:=yw hk (i:=i+1) he h;exact⟨q,by simp[Instr.findNow,h1,hs,hq],hqr⟩
theorem Dv(h:x9 k e=some true):k=e:=by
 cases e<;>simp only[x9,reduceCtorEq]at h<;>cases k<;>simp only[reduceCtorEq,aA,ic,Option.some.injEq]at h
 . rw[mO,beq_iff_eq]at h;rw[h]
 . rw[po]at h;rw[h.1,h.2]
 . rw[bX,beq_iff_eq]at h;rw[h]
theorem tJ{m:Nat->bq}{d:TypeDesc}{k v:AV}(hk:rv k (some d)):∀{es es':List (AV×AV)} {en:List MapEntry} {i:Nat},en.map (λe=>(e.key,e.val))=es.map (λe=>(aj m e.1,aj m e.2))->HJ k v es=some es'->
 ∃j x,Instr.findNow d (aj m k) en i=some (some (i+j,x))/\(∃e,en[j]? = some e/\e.key=aj m k)/\(en.modify j λe=>{ e with key:=aj m k,val:=aj m v }).map (λe=>(e.key,e.val))=es'.map (λe=>(aj m e.1,aj m e.2))
 | [],es',en,i,he,h=>by cases h
 | e::es,es',en,i,he,h=>by
   cases en with
   | nil=>simp at he
   | cons n en=>
     simp only[List.map_cons,List.cons.injEq,Prod.mk.injEq]at he;obtain⟨⟨h1,h2⟩,he⟩:=he;simp only[HJ,ai]at h;obtain⟨b,hb,h⟩:=h;have hs:=xe (m:=m) hk hb;cases b with
     | true=>
       simp only[cond_true,Option.some.injEq]at h;subst h;exact⟨0,n.val,by simp[Instr.findNow,h1,hs],⟨n,rfl,by rw[h1,Dv hb]⟩,by simp[he]⟩
     | false=>
       simp only[cond_false,ai,Option.some.injEq]at h;obtain⟨es1,hes,rfl⟩:=h;obtain⟨j,x,a1,⟨e1,a2,a3⟩,a4⟩:=tJ hk (i:=i+1) he hes;refine⟨j+1,x,?_,⟨e1,by simpa using a2,a3⟩,?_⟩
       . simp only[Instr.findNow,h1,hs];rw[show i+(j+1)=i+1+j by omega,<-a1]
       . grind
theorem Gd{D:Nat->Prop}{m:Nat->bq}{k v:AV}(hk:db D m k)(hv:db D m v):∀{es es':List (AV×AV)},HJ k v es=some es'->(∀e∈es,db D m e.1/\db D m e.2)->∀e∈es',db D m e.1/\db D m e.2
 | [],es',h,_=>by cases h
 | e::es,es',h,ho=>by
   simp only[HJ,ai]at h;obtain⟨b,hb,h⟩:=h;cases b with
   | true=>
     grind
   | false=>
     simp only[cond_false,ai,Option.some.injEq]at h;obtain⟨es1,hes,rfl⟩:=h;intro x hx;rcases List.mem_cons.1 hx with rfl|hx
     . grind
     . exact Gd hk hv hes (λe he=>ho e (List.mem_cons_of_mem _ he)) x hx
theorem y4{d:TypeDesc}(hk:rv k (some d)):Instr.sameBits 10000 (aj m k) (aj m k)=true:=by
 cases d<;>simp only[rv,Bool.false_eq_true]at hk<;>cases k<;>simp at hk<;>simp only[aj,Instr.sameBits]<;>first|(simp;done)|(rw[beq_toListBytes];simp)
theorem qS{d:TypeDesc}{t:TypeId}{b:Bool}(hk:rv k (some d))(hu:(underlying t).run P w=.ok d w):(Instr.checkKey b 10000 t (aj m k)).run P w=.ok () w:=by
 unfold Instr.checkKey;simp only[Sem.run_bind,hu,Result.andThen_ok];cases d<;>simp only[rv,Bool.false_eq_true]at hk<;>cases k<;>simp at hk<;>simp[aj]
theorem tQ{d:TypeDesc}{t:TypeId}{es:List (AV×AV)}{en:List MapEntry}{r:Option AV}(hk:rv k (some d))(hu:(underlying t).run P w=.ok d w)
 (he:en.map (λe=>(e.key,e.val))=es.map (λe=>(aj m e.1,aj m e.2))) (h:pY k es=some r):∃q,(Instr.findKey t (aj m k) en).run P w=.ok q w/\q.map (·.2)=r.map (aj m):=by
 obtain⟨q,hq,hqr⟩:=yw (m:=m) hk (i:=0) he h;exact⟨q,by simp[Instr.findKey,hu,hq],hqr⟩
theorem An{D:Nat->Prop}{m:Nat->bq}{k v:AV}:∀{es:List (AV×AV)},pY k es=some (some v)->(∀e∈es,db D m e.1/\db D m e.2)->db D m v
 | [],h,_=>by cases h
 | e::es,h,ho=>by
   simp only[pY,ai]at h;obtain⟨b,hb,h⟩:=h;cases b with
   | true=>simp only[cond_true,Option.some.injEq]at h;subst h;exact(ho e (by simp)).2
   | false=>simp only[cond_false]at h;exact An h (λe he=>ho e (by simp[he]))
section
variable{P:Program}{T:fb}(hT:fF P T){cfg:cG}{C:bg}{D:Nat->Prop}{m:Nat->bq}{o:aC}{w:World}(hi:dV cfg D m C o w){ρ:Operand->Option AV}{ev:Operand->Value}(hρ:lJ D m ρ ev)
include hT hi hρ
omit hi hρ in
theorem xB{t:TypeId}(h:tj T t):∃i,T.inf t=some i/\i.bytes<=100000:=by
 unfold tj at h;split at h
 . simp_all
 . cases h
theorem AK{t:TypeId}{l c:Operand}(ho:oo.op=.makeSlice t l c)(h:hZ t l c T C ρ o=some r):tG P cfg C D m o w ev oo r:=by
 simp only[hZ,mW,ai,aA,Bool.and_eq_true,bv,cO,aS,Option.some.injEq]at h;obtain⟨lv,hlv,cv,hcv,elem,he,n,hn,z,hz,cn,hcn,ln,hln,⟨⟨⟨⟨hl,h0⟩,hb⟩,hsm⟩,_⟩,rfl⟩:=h;obtain⟨kc,rfl,hc1⟩:=oV hcn;obtain⟨kl,rfl,hl1⟩:=oV hln;have e1:=(hρ l _ hlv).1;have e2:=(hρ c _ hcv).1;obtain⟨hz1,hz2⟩:=l_ hT (m:=m) hz w;obtain⟨inf,hinf,hby⟩:=xB hT hsm;have hmul:inf.bytes*cn<=100000*10000:=Nat.mul_le_mul hby hc1;have hmul2:inf.bytes*ln<=100000*10000:=Nat.mul_le_mul hby (Nat.le_trans hl1 hc1);have hcs:fN D m (m6 (bU z) cn):=BJ (qX hz2) cn;have he':=dk.fresh1 hi (.cells (m6 (bU z) cn) true none) ⟨w.heap.size,0,0⟩ (.cells (ap m (m6 (bU z) cn)).toArray elem) rfl rfl rfl rfl rfl (tr rfl hcs);refine⟨_,_,_,.value (.slice (some ⟨w.heap.size,0,none⟩) ln cn),?_,.inl ?_,?_,he'⟩
 . have hrep:(Array.range (cn*n)).map (λi=>(if cn*n=0 then #[]else(ap m (bU z)).toArray)[i%(if cn*n=0 then #[]else(ap m (bU z)).toArray).size]!)=(ap m (m6 (bU z) cn)).toArray:=by
    by_cases hz0:cn*n=0
    . have:cn=0:=by rcases Nat.mul_eq_zero.1 hz0 with h|h<;>omega
      subst this;apply Array.toList_inj.1;simp[m6,ap]
    . rw[if_neg hz0];exact BY (m:=m) (bU z) (by omega) cn (cn*n) (by rw[hl])
   have hw1:=wA cn hc1;have hw2:=wA ln (by omega);have t1:¬((cn:Int)<0):=by omega
   have t2:¬((inf.bytes:Int)*(cn:Int) > 2^48):=by
    omega
   have t3:¬((ln:Int)<0):=by omega
   have t4:¬((ln:Int) > (cn:Int)):=by omega
   simp only[execOp,ho,e1,e2,aj,Int.ofNat_eq_natCast,Instr.makeSlice,Sem.run_bind,bc hT (fq he) w,Result.andThen_ok,asInt,asIntOf,Sem.run_pure,o9 hT hinf w,hw1,hw2,t1,t2,t3,t4,decide_false,Bool.or_self,Bool.false_eq_true,if_false,run_askRoom,ek hT hn w,Int.toNat_natCast];by_cases hz0:cn*n=0
   . simp only[hz0,if_true,Sem.run_pure,Result.andThen_ok]at hrep ⊢;simp only[hrep,newRow,Sem.run_bind,run_newObj,Result.andThen_ok,Sem.run_pure];rfl
   . simp only[hz0,if_false,Sem.run_pure,Result.andThen_ok,Sem.run_bind,hz1,fG]at hrep ⊢;simp only[hrep,newRow,Sem.run_bind,run_newObj,Result.andThen_ok,Sem.run_pure];rfl
 . simp[aj,jA,aC.next,fM]
 . intro i hm;simp only[aD,List.mem_singleton,fj]at hm;subst hm;exact⟨s_,Nat.zero_le _⟩
omit hi hρ in
theorem o7{t kt et:TypeId}(h:Hy (T.und t)=some (kt,et)):T.und t=some (.map kt et):=by
 cases hu:T.und t with
 | none=>simp[hu,Hy]at h
 | some d=>cases d<;>simp[hu,Hy]at h;simp[h]
theorem Di{t:TypeId}{mo k:Operand}(ho:oo.op=.insert t mo k x\/oo.op=.mapUpdate t mo k x)(h:kV t mo k x T C ρ o=some r):tG P cfg C D m o w ev oo r:=by
 simp only[kV,Au,ai,aA]at h;obtain⟨mv,hmv,kv,hkv,v,hv,⟨kt,et⟩,hmt,hkd,h⟩:=h;simp only at hkd;obtain⟨e1,o1⟩:=hρ mo _ hmv;obtain⟨e2,o2⟩:=hρ k _ hkv;obtain⟨e3,o3⟩:=hρ x _ hv;cases mv<;>simp only[wo,reduceCtorEq,ai]at h;rename_i id;have hd:D id:=(o1 (id,0) (by simp[aD])).1;obtain⟨y,hy,es,hes,rr,hf,h⟩:=h;cases y<;>simp only[lP,reduceCtorEq,Option.some.injEq]at hes;subst hes;have hob:=hi.obj id hd;rw[gf hy]at hob;obtain⟨en,ck,hb,hen,hoe⟩:=hob;cases hud:T.und kt with
 | none=>rw[hud]at hkd;simp[rv]at hkd
 | some d=>
   rw[hud]at hkd;have hck:=qS (P:=P) (w:=w) (m:=m) (b:=false) hkd (bc hT hud w);have hg:=qf (P:=P) hb (by simp);cases rr with
   | none=>
     simp only[Option.some.injEq]at h;subst h;obtain⟨q,hq,hqr⟩:=tQ (P:=P) (w:=w) (m:=m) hkd (bc hT hud w) hen hf;have hq0:q=none:=by cases q<;>simp at hqr;rfl
     subst hq0;have hst:=ql (P:=P) (y:=.map (en.push { key:=aj m kv,val:=aj m v,born:=ck }) (ck+1)) hb (by simp);refine⟨D,m,{ w with heap:=w.heap.setIfInBounds (m id).blk (.map (en.push { key:=aj m kv,val:=aj m v,born:=ck }) (ck+1)) },.skip,?_,.inr ⟨rfl,rfl⟩,ik,dk.put hi hd hy rfl ?_ ?_ ?_ rfl rfl rfl⟩
     . have:(Instr.mapUpdate t (aj m (.map id)) (aj m kv) (aj m v)).run P w=.ok () { w with heap:=w.heap.setIfInBounds (m id).blk (.map (en.push { key:=aj m kv,val:=aj m v,born:=ck }) (ck+1)) }:=by
        simp only[Instr.mapUpdate,aj,Sem.run_bind,bc hT (o7 hT hmt) w,Result.andThen_ok,hg,hck,hq,hst]
       rcases ho with ho|ho<;>simp only[execOp,ho,e1,e2,e3,Sem.run_bind,this,Result.andThen_ok,Sem.run_pure]
     . simp
     . grind
     . rw[nS _ _ _ _ hb];refine⟨_,_,rfl,?_,?_⟩
       . simp[hen]
       . grind
   | some old=>
     simp only[ai,Option.some.injEq]at h;obtain⟨es',hset,rfl⟩:=h;obtain⟨j,xv,hfn,⟨e0,he0,hek⟩,hmap⟩:=tJ (m:=m) hkd (i:=0) hen hset;rw[Nat.zero_add]at hfn;have hq:(Instr.findKey kt (aj m kv) en.toList).run P w=.ok (some (j,xv)) w:=by simp[Instr.findKey,bc hT hud w,hfn]
     have hst:=ql (P:=P) (y:=.map (en.modify j λe=>{ e with key:=aj m kv,val:=aj m v }) ck) hb (by simp);have hek':((en[j]?).map (·.key)).getD (aj m kv)=aj m kv:=by
      grind
     refine⟨D,m,{ w with heap:=w.heap.setIfInBounds (m id).blk (.map (en.modify j λe=>{ e with key:=aj m kv,val:=aj m v }) ck) },.skip,?_,.inr ⟨rfl,rfl⟩,ik,dk.put hi hd hy rfl ?_ ?_ ?_ rfl rfl rfl⟩
     . have:(Instr.mapUpdate t (aj m (.map id)) (aj m kv) (aj m v)).run P w=.ok () { w with heap:=w.heap.setIfInBounds (m id).blk (.map (en.modify j λe=>{ e with key:=aj m kv,val:=aj m v }) ck) }:=by
        simp only[Instr.mapUpdate,aj,Sem.run_bind,bc hT (o7 hT hmt) w,Result.andThen_ok,hg,hck,hq,hek',Instr.keyThatStays,y4 hkd,if_true,Sem.run_pure,hst]
       rcases ho with ho|ho<;>simp only[execOp,ho,e1,e2,e3,Sem.run_bind,this,Result.andThen_ok,Sem.run_pure]
     . simp
     . grind
     . rw[nS _ _ _ _ hb];exact⟨_,_,rfl,by rw[Array.toList_modify];exact hmap,Gd o2 o3 hset hoe⟩
theorem HR{t:TypeId}{okv:Bool}(ho:oo.op=.lookup t x ix okv)(h:nV t x ix okv T C ρ o=some r):tG P cfg C D m o w ev oo r:=by
 simp only[nV,bN,BX,ai,aA]at h;obtain⟨⟨mv,hmv,kv,hkv,⟨kt,et⟩,hmt,hkd,h⟩,hr⟩:=h;simp only at hkd h;obtain⟨e1,o1⟩:=hρ x _ hmv;obtain⟨e2,o2⟩:=hρ ix _ hkv;cases mv<;>simp only[rQ,reduceCtorEq,ai]at h;rename_i id;have hd:D id:=(o1 (id,0) (by simp[aD])).1;obtain⟨es,hes,rr,hf,h⟩:=h;have hob:=hi.obj id hd;cases hy:get C o id<;>simp only[hy,lP,reduceCtorEq,Option.some.injEq]at hes;subst hes;rw[hy]at hob;obtain⟨en,ck,hb,hen,hoe⟩:=hob;cases hud:T.und kt with
 | none=>rw[hud]at hkd;simp[rv]at hkd
 | some d=>
   rw[hud]at hkd;obtain⟨q,hq,hqr⟩:=tQ (P:=P) (w:=w) (m:=m) hkd (bc hT hud w) hen hf;have hck:=qS (P:=P) (w:=w) (m:=m) (b:=en.isEmpty) hkd (bc hT hud w);have hg:=qf (P:=P) hb (by simp);cases rr with
   | some v=>
     simp only[Option.some.injEq]at h;have hv:=An hf hoe;cases q with
     | none=>simp at hqr
     | some q=>
       simp only[Option.map_some,Option.some.injEq]at hqr;refine gI.pure hi hr ?_ ?_
       . rw[<-h];simp only[execOp,ho,e1,e2,aj,Instr.lookup,Sem.run_bind,bc hT (o7 hT hmt) w,Result.andThen_ok,hg,hck,hq,Sem.run_pure];cases okv<;>simp[oK,aj,ap,hqr]
       . rw[<-h];cases okv
         . exact hv
         . exact fV.2 (ct.2 ⟨hv,ct.2 ⟨sj,fH⟩⟩)
   | none=>
     simp only[ai,Option.some.injEq]at h;obtain⟨z,hz,h⟩:=h;obtain⟨hz1,hz2⟩:=l_ hT (m:=m) hz w;have hq0:q=none:=by cases q<;>simp at hqr;rfl
     subst hq0;refine gI.pure hi hr ?_ ?_
     . rw[<-h];simp only[execOp,ho,e1,e2,aj,Instr.lookup,Sem.run_bind,bc hT (o7 hT hmt) w,Result.andThen_ok,hg,hck,hq,Sem.run_pure,hz1];cases okv<;>simp[oK,aj,ap]
     . rw[<-h];cases okv
       . exact bQ hz2
       . exact fV.2 (ct.2 ⟨bQ hz2,ct.2 ⟨sj,fH⟩⟩)
theorem J8{t:TypeId}(ho:oo.op=.range t x)(h:q7 t x T C ρ o=some r):tG P cfg C D m o w ev oo r:=by
 simp only[q7,ai]at h;obtain⟨v,hv,h⟩:=h;obtain⟨e1,o1⟩:=hρ x _ hv;cases v<;>simp only[Eg,reduceCtorEq,aA,Option.some.injEq]at h;rename_i s;obtain⟨hs,rfl⟩:=h;have he':=dk.fresh1 hi (.siter s 0) ⟨w.heap.size,0,0⟩ (.stringIter ⟨⟨s⟩⟩ 0) rfl rfl rfl rfl rfl ⟨rfl,rfl⟩;refine⟨_,_,_,.value (.pointer (some ⟨w.heap.size,0,none⟩)),?_,.inl ?_,xt,he'⟩
 . simp only[execOp,ho,e1,aj,Instr.range,Sem.run_bind,bc hT (vP hs) w,Result.andThen_ok,Sem.run_pure,run_newObj];rfl
 . simp[aj,aC.next,fM]
omit hT in
theorem Og{it:Operand}{s:Bool}(ho:oo.op=.next it s)(h:qd it s T C ρ o=some r):tG P cfg C D m o w ev oo r:=by
 simp only[qd,aA,ai]at h;obtain⟨rfl,v,hv,h⟩:=h;obtain⟨e1,o1⟩:=hρ it _ hv;unfold B7 at h;split at h
 . rename_i id;simp only[ai]at h;obtain⟨y,hy,h⟩:=h;have hd:D id:=(o1 (id,0) (by simp[aD])).1;cases y<;>simp only[rS,reduceCtorEq,Option.some.injEq]at h;rename_i s pos;subst h;have hob:=hi.obj id hd;rw[gf hy]at hob;obtain⟨hob,hbase⟩:=hob;have hg:=qf (P:=P) hob (by simp);have hsz:(ByteArray.mk ⟨s⟩).size=s.length:=rfl;unfold CM;cases hlt:aW pos s.length with
   | true=>
     have hp:=aS.1 hlt;simp only[cond_true];have hst:=ql (P:=P) (y:=.stringIter ⟨⟨s⟩⟩ (pos+(Utf8.decode ⟨⟨s⟩⟩ pos).2)) hob (by simp);refine⟨D,m,{ w with heap:=w.heap.setIfInBounds (m id).blk (.stringIter ⟨⟨s⟩⟩ (pos+(Utf8.decode ⟨⟨s⟩⟩ pos).2)) },.value (.tuple #[.bool true,.int .i64 pos,.int .i32 (Utf8.decode ⟨⟨s⟩⟩ pos).1]),?_,.inl ?_,?_,dk.put hi hd hy rfl ?_ ?_ ?_ rfl rfl rfl⟩
     . simp only[execOp,ho,e1,aj,hbase,Instr.next,Sem.run_bind,hg,Result.andThen_ok,hsz,if_pos hp,hst,Sem.run_pure,Go.goInt]
     . simp[aj,ap,gD,E_]
     . exact fV.2 (ct.2 ⟨sj,ct.2 ⟨by rw[gD];exact wt,ct.2 ⟨by rw[E_];exact wt,fH⟩⟩⟩)
     . simp
     . grind
     . rw[nS _ _ _ _ hob];exact⟨rfl,hbase⟩
   | false=>
     have hp:¬pos<s.length:=by have:=nJ.1 hlt;omega
     simp only[cond_false];refine gI.pure hi rfl ?_ (fV.2 (ct.2 ⟨sj,fH⟩));simp only[execOp,ho,e1,aj,hbase,Instr.next,Sem.run_bind,hg,Result.andThen_ok,hsz,if_neg hp,Sem.run_pure,ap]
 . cases h
end
end Go.Ev
