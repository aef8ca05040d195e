import Derived.Laws.IdiomStrings
import Derived.Test.YtoghlpcacfnjbaaGreatDoorP05
set_option linter.all false
set_option maxRecDepth 100000
set_option maxHeartbeats 4000000
namespace Go.Ev
open Go Go.RowKit
variable{P:Program}{C:bg}{D:Nat->Prop}{m:Nat->bv}{o:aB}{w:World}{r:AV×aB}{oo:Oper}{x ix:Operand}{n:Nat}{l:bv}{k e:AV}
def gO(P:Program)(cfg:cL)(C:bg)(D:Nat->Prop)(m:Nat->bv)(o:aB)(w:World)(s:Sem Next)(r:AV×aB):Prop:=
 ∃D' m' w' nx,s.run P w=.ok nx w'/\(nx=.value (aj m' r.1)\/nx=.skip/\r.1=bt)/\dh D' m' r.1/\dw cfg C D m o w D' m' r.2 w'
theorem gO.a0{cfg:cL}{s:Sem Next}(hi:dX cfg D m C o w)(ho:r.2=o)(h:s.run P w=.ok (.value (aj m r.1)) w)(hv:dh D m r.1):gO P cfg C D m o w s r:=
 ⟨D,m,w,_,h,.inl rfl,hv,by rw[ho];exact dw.e0 hi⟩
def mE(D:Nat->Prop)(m:Nat->bv)(ρ:Operand->Option AV)(ev:Operand->Value):Prop:=∀x v,ρ x=some v->ev x=aj m v/\dh D m v
theorem vG{D:Nat->Prop}{m:Nat->bv}{ρ:Operand->Option AV}{ev:Operand->Value}(hρ:mE D m ρ ev):∀{xs:List Operand} {vs:List AV},gz ρ xs=some vs->xs.map ev=ap m vs/\fM D m vs
 | [],vs,h=>by cases h;exact⟨by simp[ap],fQ⟩
 | x::xs,vs,h=>by
   simp only[gz,ag,Option.some.injEq]at h;obtain⟨v,hv,vs',hvs,rfl⟩:=h;obtain⟨h1,h2⟩:=hρ x v hv;obtain⟨h3,h4⟩:=vG hρ hvs;exact⟨by simp[ap,h1,h3],ct.2 ⟨h2,h4⟩⟩
theorem ku{ρ:Operand->Option AV}{ev:Operand->Value}(hρ:mE D m ρ ev){xs:Array Operand}{vs:List AV}(h:gz ρ xs.toList=some vs):xs.map ev=(ap m vs).toArray/\fM D m vs:=by
 obtain⟨h1,h2⟩:=vG hρ h;refine⟨?_,h2⟩;apply Array.toList_inj.1;simpa using h1
theorem oE{D:Nat->Prop}{m:Nat->bv}{ρ:Operand->Option AV}{ev:Operand->Value}(hρ:mE D m ρ ev):∀{xs:List (Nat×Operand)} {ps:List (Nat×AV)},oA ρ xs=some ps->xs.map (λp=>(p.1,ev p.2))=ps.map (λp=>(p.1,aj m p.2))/\∀p∈ps,dh D m p.2
 | [],ps,h=>by cases h;simp
 | x::xs,ps,h=>by
   simp only[oA,ag,Option.some.injEq]at h;obtain⟨v,hv,ps',hps,rfl⟩:=h;obtain⟨h1,h2⟩:=hρ _ v hv;obtain⟨h3,h4⟩:=oE hρ hps;refine⟨by simp[h1,h3],λp hp=>?_⟩;rcases List.mem_cons.1 hp with rfl|hp
   . exact h2
   . grind
theorem tc{ρ:Operand->Option AV}{ev:Operand->Value}(hρ:mE D m ρ ev){x:Option Operand}{v:Option AV}(h:yT ρ x=some v):x.map ev=v.map (aj m):=by
 cases x with
 | none=>cases h;rfl
 | some x=>
   simp only[yT,ag,Option.some.injEq]at h;obtain⟨u,hu,rfl⟩:=h;simp[(hρ x u hu).1]
theorem rM{v:AV}(h:aC v=[]):fM D m (bU v):=pL (bM h)
section
variable{P:Program}{T:fm}(hT:fH P T){cfg:cL}{C:bg}{D:Nat->Prop}{m:Nat->bv}{o:aB}{w:World}(hi:dX cfg D m C o w){ρ:Operand->Option AV}{ev:Operand->Value}(hρ:mE D m ρ ev)
include hT hi hρ
theorem xj:∀{fs:List Field} {pl:List (Nat×Nat)},wQ T fs=some pl->∀w,(fs.mapM (λf=>(do pure (f.offset,<-sizeOf f.type):Sem (Nat×Nat)))).run P w=.ok pl w
 | [],pl,h,w=>by cases h;simp
 | f::fs,pl,h,w=>by
   simp only[wQ,ag,Option.some.injEq]at h;obtain⟨n,hn,r,hr,rfl⟩:=h;simp only[List.mapM_cons,Sem.run_bind,ep hT hn w,Result.andThen_ok,Sem.run_pure,xj hr w]
theorem Li{t:TypeId}{parts:Array (Nat×Operand)}{v:AV}(h:B1 T ρ t parts.toList=some v):(Instr.build t (parts.map λ(i,x)=>(i,ev x))).run P w=.ok (aj m v) w/\dh D m v:=by
 simp only[B1,ag]at h;obtain⟨z,hz,ps,hps,h⟩:=h;obtain⟨hzr,hz0⟩:=mc hT (m:=m) hz w;obtain⟨hp1,hp2⟩:=oE hρ hps;have hparts:(parts.map λ(x:Nat×Operand)=>(x.1,ev x.2)).toList=ps.map λp=>(p.1,aj m p.2):=by simpa using hp1
 cases hu:T.a0 t with
 | none=>simp[hu,Fz]at h
 | some d=>
   cases d<;>simp only[hu,Fz,reduceCtorEq,ag,Option.some.injEq]at h
   . rename_i n elem;obtain⟨sz,hsz,cs,hcs,rfl⟩:=h;refine⟨?_,iL.2 (rZ hcs (rM hz0) hp2)⟩;have hf:=oT (m:=m) hcs;simp only[Instr.build,Sem.run_bind,hzr,Result.andThen_ok,a_ hT hu w,ep hT hsz w,fV,hparts,hf,Sem.run_pure,aj]
   . rename_i fields;obtain⟨pl,hpl,cs,hcs,rfl⟩:=h;refine⟨?_,iL.2 (rZ hcs (rM hz0) hp2)⟩;have hm:(fields.mapM (λf=>(do pure (f.offset,<-sizeOf f.type):Sem (Nat×Nat)))).run P w=.ok pl.toArray w:=by
      rw[Array.mapM_eq_mapM_toList,Sem.run_map,xj hT hi hρ hpl w];rfl
     have hf:=oT (m:=m) hcs;have hp:(λi:Nat=>pl.toArray[i]?)=λi:Nat=>pl[i]? := by funext i;simp
     simp only[Instr.build,Sem.run_bind,hzr,Result.andThen_ok,a_ hT hu w,fV,hparts,hm,hp,hf,Sem.run_pure,aj]
abbrev vy(P:Program)(cfg:cL)(C:bg)(D:Nat->Prop)(m:Nat->bv)(o:aB)(w:World)(ev:Operand->Value)(oo:Oper)(r:AV×aB):Prop:=gO P cfg C D m o w (execOp ev oo) r
omit hT in
theorem F_(ho:oo.op=.move x\/oo.op=.assign x)(h:th x T C ρ o=some r):vy P cfg C D m o w ev oo r:=by
 simp only[th,bK]at h;obtain⟨h1,h2⟩:=hρ x _ h.1;exact gO.a0 hi h.2 (by rcases ho with ho|ho<;>simp[execOp,ho,h1]) h2
omit hT in
theorem OL{c a b:Operand}(ho:oo.op=.pick c a b)(h:xT c a b T C ρ o=some r):vy P cfg C D m o w ev oo r:=by
 simp only[xT,bK,ag]at h;obtain⟨⟨cv,hc,h⟩,h2⟩:=h;have h3:=(hρ c _ hc).1;cases cv<;>simp only[Gd,reduceCtorEq]at h;rename_i b';cases b'<;>simp only[Gd]at h
 . obtain⟨h4,h5⟩:=hρ b _ h;exact gO.a0 hi h2 (by simp[execOp,ho,h3,h4,aj,asBool]) h5
 . obtain⟨h4,h5⟩:=hρ a _ h;exact gO.a0 hi h2 (by simp[execOp,ho,h3,h4,aj,asBool]) h5
theorem KO{t:TypeId}{parts:Array (Nat×Operand)}(ho:oo.op=.build t parts)(h:ww t parts T C ρ o=some r):vy P cfg C D m o w ev oo r:=by
 simp only[ww,bK]at h;obtain⟨h1,h2⟩:=Li hT hi hρ h.1;exact gO.a0 hi h.2 (by simp only[execOp,ho,Sem.run_bind,h1,Result.andThen_ok,Sem.run_pure]) h2
theorem Ov{t:TypeId}{a:Operand}(ho:oo.op=.load t a)(h:tN t a T C ρ o=some r):vy P cfg C D m o w ev oo r:=by
 simp only[tN,bK,ag]at h;obtain⟨⟨p,hp,h⟩,h2⟩:=h;obtain⟨h3,h4⟩:=hρ a _ hp;obtain⟨ad,h5,h6,h7⟩:=AB hT hi h4 h;exact gO.a0 hi h2 (by simp only[execOp,ho,Sem.run_bind,h3,h5,Instr.loadAt,Instr.sureAddr,Sem.run_pure,Result.andThen_ok,h6]) h7
omit hT in
theorem C8(ho:oo.op=.nilCheck x)(h:mW x T C ρ o=some r):vy P cfg C D m o w ev oo r:=by
 simp only[mW,bK,ag]at h;obtain⟨⟨p,hp,h⟩,h2⟩:=h;obtain⟨h3,h4⟩:=hρ x _ hp;cases p<;>simp only[z_,reduceCtorEq,Option.some.injEq]at h
 . rw[h]at h4 h3;refine gO.a0 hi h2 ?_ h4;rw[<-h]at h3 ⊢;simp only[aj]at h3 ⊢;simp only[execOp,ho,h3,Sem.run_pure]
 . rw[h]at h4 h3;refine gO.a0 hi h2 ?_ h4;rw[<-h]at h3 ⊢;simp only[aj]at h3 ⊢;simp only[execOp,ho,h3,Sem.run_pure]
theorem Q7{op:BinOp}{t yt:TypeId}{y:Operand}(ho:oo.op=.binOp op t x y yt)(h:DX op t x y T C ρ o=some r):vy P cfg C D m o w ev oo r:=by
 simp only[DX,bK,ag]at h;obtain⟨⟨a,ha,b,hb,h⟩,h2⟩:=h;obtain⟨h3,_⟩:=hρ x _ ha;obtain⟨h4,_⟩:=hρ y _ hb;obtain⟨h5,h6⟩:=JE hT (m:=m) h w;exact gO.a0 hi h2 (by simp only[execOp,ho,h3,h4];rw[Sem.run_bind,h5];rfl) (bM h6)
omit hT in
theorem VB{op:UnOp}{t:TypeId}(ho:oo.op=.unOp op t x)(h:Kp op x T C ρ o=some r):vy P cfg C D m o w ev oo r:=by
 simp only[Kp,bK,ag]at h;obtain⟨⟨a,ha,h⟩,h2⟩:=h;obtain⟨h3,_⟩:=hρ x _ ha;obtain⟨h5,h6⟩:=O6 (P:=P) (m:=m) h w;exact gO.a0 hi h2 (by simp only[execOp,ho,h3,Sem.run_bind,h5,Result.andThen_ok,Sem.run_pure]) (bM h6)
theorem Kk{t:TypeId}(ho:oo.op=.makeInterface t x)(h:wz t x T C ρ o=some r):vy P cfg C D m o w ev oo r:=by
 simp only[wz,bK,ag,xA]at h;obtain⟨⟨v,hv,h⟩,h2⟩:=h;obtain⟨h3,h4⟩:=hρ x _ hv;split at h<;>simp only[reduceCtorEq,Option.some.injEq]at h;rename_i d hne hu;refine gO.a0 hi h2 ?_ (by rw[<-h];exact h4);rw[<-h];simp only[execOp,ho,h3,Instr.makeInterface,Sem.run_bind,a_ hT hu w,Result.andThen_ok,aj];cases d<;>first|rfl|exact absurd rfl (hne _)
omit hT in
theorem OX{fn:Fn}{first captured:Array Operand}(ho:oo.op=.makeFunc fn first captured)(h:Ca fn first captured T C ρ o=some r):vy P cfg C D m o w ev oo r:=by
 simp only[Ca,bK]at h;obtain⟨h,h2⟩:=h;cases fn<;>simp only[tT,reduceCtorEq,ag,Option.some.injEq]at h;obtain⟨a,ha,b,hb,h⟩:=h;obtain⟨h3,h4⟩:=ku hρ ha;obtain⟨h5,h6⟩:=ku hρ hb;refine gO.a0 hi h2 ?_ ?_
 . rw[<-h];simp[execOp,ho,Instr.makeFunc,h3,h5,aj]
 . rw[<-h];intro i hm;simp only[aC,List.mem_append]at hm;rcases hm with hm|hm
   . exact h4 i hm
   . exact h6 i hm
theorem K_{t:TypeId}{lo hi' mx:Option Operand}(ho:oo.op=.slice t x lo hi' mx)(h:sg t x lo hi' mx T C ρ o=some r):vy P cfg C D m o w ev oo r:=by
 simp only[sg,bK,ag]at h;obtain⟨⟨v,hv,l,hl,hh,hhh,mm,hmm,h⟩,h2⟩:=h;obtain⟨h3,h4⟩:=hρ x _ hv;obtain⟨h5,h6⟩:=CM hT h4 h w;exact gO.a0 hi h2 (by simp only[execOp,ho,h3,tc hρ hl,tc hρ hhh,tc hρ hmm,Sem.run_bind,h5,Result.andThen_ok,Sem.run_pure]) h6
theorem BQ{s:TypeId}{f:Nat}(ho:oo.op=.fieldAddr s x f)(h:lE s x f T C ρ o=some r):vy P cfg C D m o w ev oo r:=by
 simp only[lE,bK,ag]at h;obtain⟨⟨v,hv,h⟩,h2⟩:=h;obtain⟨h3,h4⟩:=hρ x _ hv;obtain⟨h5,h6⟩:=zP hT h4 h w;exact gO.a0 hi h2 (by simp only[execOp,ho,h3,Sem.run_bind,h5,Result.andThen_ok,Sem.run_pure]) h6
theorem Mo{s:TypeId}{f:Nat}(ho:oo.op=.field s x f)(h:wB s x f T C ρ o=some r):vy P cfg C D m o w ev oo r:=by
 simp only[wB,bK,ag]at h;obtain⟨⟨v,hv,h⟩,h2⟩:=h;obtain⟨h3,h4⟩:=hρ x _ hv;obtain⟨h5,h6⟩:=HJ hT h4 h w;exact gO.a0 hi h2 (by simp only[execOp,ho,h3,Sem.run_bind,h5,Result.andThen_ok,Sem.run_pure]) h6
omit hT hi hρ in
theorem AU{v:AV}(h:HG v=some n):∃k,v=.a k (.ofNat n):=by
 unfold HG at h;split at h
 . simp_all
 . cases h
theorem Ba{t:TypeId}(ho:oo.op=.indexAddr t x ix)(h:jq t x ix T C ρ o=some r):vy P cfg C D m o w ev oo r:=by
 simp only[jq,bK,ag]at h;obtain⟨⟨v,hv,i,hix,n,hn,h⟩,h2⟩:=h;obtain⟨k,rfl⟩:=AU hn;obtain⟨h3,h4⟩:=hρ x _ hv;obtain⟨h7,_⟩:=hρ ix _ hix;obtain⟨h5,h6⟩:=zJ hT (k:=k) h4 h w;exact gO.a0 hi h2 (by simp only[execOp,ho,h3,h7,aj,Int.ofNat_eq_natCast,Sem.run_bind,h5,Result.andThen_ok,Sem.run_pure]) h6
theorem LK{t:TypeId}(ho:oo.op=.index t x ix)(h:rz t x ix T C ρ o=some r):vy P cfg C D m o w ev oo r:=by
 simp only[rz,bK,ag]at h;obtain⟨⟨v,hv,i,hix,n,hn,h⟩,h2⟩:=h;obtain⟨k,rfl⟩:=AU hn;obtain⟨h3,h4⟩:=hρ x _ hv;obtain⟨h7,_⟩:=hρ ix _ hix;obtain⟨h5,h6⟩:=IP hT (k:=k) h4 h w;exact gO.a0 hi h2 (by simp only[execOp,ho,h3,h7,aj,Int.ofNat_eq_natCast,Sem.run_bind,h5,Result.andThen_ok,Sem.run_pure]) h6
omit hT in
theorem E0{t:Operand}{i:Nat}(ho:oo.op=.extract t i)(h:pG t i T C ρ o=some r):vy P cfg C D m o w ev oo r:=by
 simp only[pG,bK,ag]at h;obtain⟨⟨v,hv,h⟩,h2⟩:=h;obtain⟨h3,h4⟩:=hρ t _ hv;cases v<;>simp only[Ei,reduceCtorEq]at h;rename_i vs;refine gO.a0 hi h2 ?_ (df.1 (gh.1 h4) _ (List.mem_of_getElem? h));simp[execOp,ho,h3,aj,Instr.extract,gi,h]
end
theorem alloc_heap_new(w:World)(x:Obj):(w.alloc x).heap[w.heap.size]? = some x:=by
 show(w.heap.push x)[w.heap.size]? = _;simp
theorem dw.j0{cfg:cL}{w0:World}(hi:dX cfg D m C o w)(x:aD)(l:bv)(b:Obj)(hw:w0.heap=w.heap)(hos:w0.os=w.os)(ht:w0.tape=w.tape)(hu:w0.output=w.output)(hl:l.a0=w.heap.size)(hx:cU D m l x (some b)) :
 dw cfg C D m o w (xD D (C.lo+o.n)) (AT m (C.lo+o.n) l) (o.b0 x) (w0.alloc b):=by
 refine dw.o0 hi (by simp[hw]) (λk hk=>?_) (by omega) ?_ hos ht hu
 . rw[Below.heap_alloc w0 b k (by rw[hw];exact hk),hw]
 . rw[hl,<-hw,alloc_heap_new];exact hx
theorem tj:xD D n n:=.inr rfl
theorem tH{cs:List AV}{rw:Bool}{e:TypeId}(hb:l.b0=0)(ho:fM D m cs):cU D m l (.a cs rw none) (some (.cells (ap m cs).toArray e)):=
 ⟨_,e,(0,0),rfl,⟨λi v hv=>by rw[hb,Nat.zero_add];simp[gi,hv],ho,λ_=>rfl,λs hs=>by cases hs⟩⟩
theorem yI{off:Nat}:dh (xD D n) (AT m n l) (.g n off):=λi hi=>by
 simp only[aC,List.mem_singleton]at hi;subst hi;exact⟨tj,Nat.zero_le _⟩
theorem zu(z:List AV):∀k,(mX z k).length=k*z.length
 | 0=>by simp[mX]
 | k+1=>by rw[mX,List.length_append,zu z k,Nat.succ_mul,Nat.add_comm]
theorem Ea(z:List AV)(hz:0<z.length):∀k i,i<k*z.length->(mX z k)[i]? = z[i%z.length]?
 | 0,i,h=>by simp at h
 | k+1,i,h=>by
   rw[mX,List.getElem?_append];by_cases hi:i<z.length
   . rw[if_pos hi,Nat.mod_eq_of_lt hi]
   . rw[if_neg hi,Ea z hz k (i-z.length) (by rw[Nat.succ_mul]at h;omega),<-Nat.mod_eq_sub_mod (by omega)]
theorem DA(z:List AV)(hz:0<z.length)(k n:Nat)(hn:n=k*z.length) :
 (Array.range n).map (λi=>(ap m z).toArray[i%(ap m z).toArray.size]!)=(ap m (mX z k)).toArray:=by
 subst hn;apply Array.ext
 . simp[b7,zu]
 . intro i h1 h2;have hi:i<k*z.length:=by simpa using h1
   have hm:i%z.length<z.length:=Nat.mod_lt _ hz;have h3:(ap m (mX z k))[i]? = (ap m z)[i%z.length]? := by rw[gi,gi,Ea z hz k i hi]
   simp only[Array.getElem_map,Array.getElem_range,List.size_toArray,b7,List.getElem_toArray];have h4:i%z.length<(ap m z).length:=by rw[b7];exact hm
   have h5:i<(ap m (mX z k)).length:=by rw[b7,zu];exact hi
   rw[List.getElem?_eq_getElem h5,List.getElem?_eq_getElem h4,Option.some.injEq]at h3;rw[h3];simp[h4]
theorem Cl{D:Nat->Prop}{m:Nat->bv}{z:List AV}(hz:fM D m z):∀k,fM D m (mX z k)
 | 0=>fQ
 | k+1=>ex.2 ⟨hz,Cl hz k⟩
section
variable{P:Program}{T:fm}(hT:fH P T){cfg:cL}{C:bg}{D:Nat->Prop}{m:Nat->bv}{o:aB}{w:World}(hi:dX cfg D m C o w){ρ:Operand->Option AV}{ev:Operand->Value}(hρ:mE D m ρ ev)
include hT hi hρ
omit hT hρ in
theorem Dy{s:Sem Next}{v:AV}{e:TypeId}(hv:dh D m v)(hs:s.run P w=.ok (.value (.pointer (some ⟨w.heap.size,0,none⟩))) (w.alloc (.cells (aj m v).cells e)))(h:lG C o v=some r):gO P cfg C D m o w s r:=by
 simp only[lG,aA,Option.some.injEq]at h;obtain⟨_,rfl⟩:=h;have he:=dw.j0 hi (.a (bU v) true none) ⟨w.heap.size,0,0⟩ (.cells (aj m v).cells e) rfl rfl rfl rfl rfl (by rw[fV];exact tH rfl (pL hv));refine⟨_,_,_,_,hs,.inl ?_,yI,he⟩;simp[aj,aB.a0,fJ]
theorem Mu{t:TypeId}(ho:oo.op=.alloc t)(h:pq t T C ρ o=some r):vy P cfg C D m o w ev oo r:=by
 simp only[pq,ag]at h;obtain⟨z,hz,h⟩:=h;obtain⟨h1,h2⟩:=mc hT (m:=m) hz w;refine Dy (e:=t) hi (bM h2) ?_ h;simp[execOp,ho,Instr.alloc,h1,newVar,newRow]
omit hT in
theorem R8{t:TypeId}(ho:oo.op=.box t x)(h:xG x T C ρ o=some r):vy P cfg C D m o w ev oo r:=by
 simp only[xG,ag]at h;obtain⟨v,hv,h⟩:=h;obtain⟨h3,h4⟩:=hρ x _ hv;refine Dy (e:=t) hi h4 ?_ h;simp[execOp,ho,Instr.box,h3,newVar,newRow]
theorem zD{t:TypeId}{len:Nat}{parts:Array (Nat×Operand)}(ho:oo.op=.buildSlice t len parts)(h:fT t len parts T C ρ o=some r):vy P cfg C D m o w ev oo r:=by
 simp only[fT,iq,ag,aA,Bool.and_eq_true,bx,cQ,aU,Option.some.injEq]at h;obtain⟨elem,he,n,hn,z,hz,ps,hps,⟨⟨hb,hl⟩,h0⟩,cs,hcs,_,rfl⟩:=h;obtain⟨hp1,hp2⟩:=oE hρ hps;obtain⟨hz1,hz2⟩:=mc hT (m:=m) hz w;have hparts:(parts.map λ(x:Nat×Operand)=>(x.1,ev x.2)).toList=ps.map λp=>(p.1,aj m p.2):=by simpa using hp1
 have hf:=oT (m:=m) hcs;have hok:=rZ (D:=D) (m:=m) hcs (Cl (rM hz2) len) hp2;have he':=dw.j0 hi (.a cs true none) ⟨w.heap.size,0,0⟩ (.cells (ap m cs).toArray elem) rfl rfl rfl rfl rfl (tH rfl hok);refine⟨_,_,_,.value (.slice (some ⟨w.heap.size,0,none⟩) len len),?_,.inl ?_,?_,he'⟩
 . have h1:¬(len*n > 2^24):=by omega
   by_cases hlz:len*n=0
   . have hln:len=0:=by rcases Nat.mul_eq_zero.1 hlz with h|h<;>omega
     subst hln;simp only[mX,ap]at hf;simp only[execOp,ho,Instr.buildSlice,Sem.run_bind,a_ hT (fw he) w,Result.andThen_ok,ep hT hn w,hparts];have e0:∀f:Nat->Value,(Array.range 0).map f=#[]:=λf=>by apply Array.toList_inj.1;simp
     simp only[Nat.zero_mul,if_true,gt_iff_lt,Nat.not_lt_zero,if_false,Sem.run_pure,Result.andThen_ok,e0,hf];simp[newRow]
   . have hrep:=DA (m:=m) (bU z) (by omega) len (len*n) (by rw[hl]);simp only[execOp,ho,Instr.buildSlice,Sem.run_bind,a_ hT (fw he) w,Result.andThen_ok,ep hT hn w,if_neg h1,hparts,Sem.run_pure,if_neg hlz,hz1,fV,hrep,hf];simp[newRow]
 . simp[aj,iR,aB.a0,fJ]
 . intro i hm;simp only[aC,List.mem_singleton,fi]at hm;subst hm;exact⟨tj,Nat.zero_le _⟩
omit hT in
theorem E3{t:TypeId}{x:Option Operand}(ho:oo.op=.makeMap t x)(h:pA x T C ρ o=some r):vy P cfg C D m o w ev oo r:=by
 simp only[pA,aA,Option.some.injEq,Option.isNone_iff_eq_none]at h;obtain⟨rfl,rfl⟩:=h;have he':=dw.j0 hi (.f []) ⟨w.heap.size,0,0⟩ (.map #[] 0) rfl rfl rfl rfl rfl ⟨#[],0,rfl,rfl,λe hm=>by cases hm⟩;refine⟨_,_,_,.value (.map (some w.heap.size)),?_,.inl ?_,?_,he'⟩
 . simp[execOp,ho,Instr.makeMap]
 . simp[aj,aB.a0,fJ]
 . intro i hm;simp only[aC,List.mem_singleton]at hm;subst hm;exact⟨tj,Nat.zero_le _⟩
theorem Mg{t:TypeId}{a:Operand}(ho:oo.op=.store t a x)(h:oY t a x T C ρ o=some r):vy P cfg C D m o w ev oo r:=by
 simp only[oY,ag,Option.some.injEq]at h;obtain⟨p,hp,v,hv,o',hs,rfl⟩:=h;obtain⟨h1,h2⟩:=hρ a _ hp;obtain⟨h3,h4⟩:=hρ x _ hv;obtain⟨w',hr,he⟩:=ED hT hi h2 h4 hs;exact⟨D,m,w',.skip,by simp only[execOp,ho,h1,h3,Sem.run_bind,hr,Result.andThen_ok,Sem.run_pure],.inr ⟨rfl,rfl⟩,iy,he⟩
end
theorem DF{v:AV}{b:UInt8}(h:ya v=some b):v=.a .u8 (.ofNat b.toNat):=by
 unfold ya at h;split at h
 . simp only[aA,aU,Option.some.injEq]at h;obtain⟨h1,rfl⟩:=h;rw[UInt8.toNat_ofNat_of_lt' h1]
 . cases h
theorem qj:∀{vs:List AV} {s:List UInt8},mI vs=some s->vs=s.map jx
 | [],s,h=>by cases h;rfl
 | v::vs,s,h=>by
   simp only[mI,ag,Option.some.injEq]at h;obtain⟨b,hb,s',hs,rfl⟩:=h;rw[DF hb,qj hs];rfl
theorem Dq(w:World)(need old:Nat)(e:TypeId)(h:need<2^63):need<=grownCap w need old e:=by
 unfold grownCap Question.cut;simp
section
variable{P:Program}{T:fm}(hT:fH P T){cfg:cL}{C:bg}{D:Nat->Prop}{m:Nat->bv}{o:aB}{w:World}(hi:dX cfg D m C o w){ρ:Operand->Option AV}{ev:Operand->Value}(hρ:mE D m ρ ev)
include hT hi hρ
omit hi hρ in
theorem zm{e:TypeId}(h:mT (T.a0 e)):T.a0 e=some (.int .u8):=by
 cases hu:T.a0 e with
 | none=>simp[hu,mT]at h
 | some d=>
   cases d<;>simp[hu,mT]at h;rename_i k;cases k<;>simp at h;rfl
omit hi hρ in
theorem Ah{t:TypeId}(h:zF (T.a0 t)):T.a0 t=some .string:=wT h
theorem E4{src dst:TypeId}(ho:oo.op=.convert src dst x)(h:ip src dst x T C ρ o=some r):vy P cfg C D m o w ev oo r:=by
 simp only[ip,ag]at h;obtain⟨v,hv,h⟩:=h;obtain⟨h1,h2⟩:=hρ x _ hv;cases v<;>simp only[jA,reduceCtorEq,aA,bK]at h
 case a k n=>
  obtain⟨hs,h,h3⟩:=h;obtain⟨d,hd⟩:=Option.isSome_iff_exists.1 hs;cases hu:T.a0 dst with
  | none=>simp[hu,w7]at h
  | some d'=>
    cases d'<;>simp only[hu,w7,reduceCtorEq,sP,Option.some.injEq]at h
    . refine gO.a0 hi h3 ?_ (bM (by rw[<-h];simp[aC]));rw[<-h];simp only[execOp,ho,h1,convert,Sem.run_bind,a_ hT hd w,a_ hT hu w,Result.andThen_ok,aj,Conv.intToInt,Sem.run_pure]
    . refine gO.a0 hi h3 ?_ (bM (by rw[<-h];simp[aC]));rw[<-h];simp only[execOp,ho,h1,convert,Sem.run_bind,a_ hT hd w,a_ hT hu w,Result.andThen_ok,aj,Conv.intToString,Sem.run_pure]
 case d s=>
  obtain⟨hs,h⟩:=h;have hsu:=Ah hT hs;cases hu:T.a0 dst with
  | none=>simp[hu,o8]at h
  | some d'=>
    cases d'<;>simp only[hu,o8,reduceCtorEq,Option.some.injEq,aA,Bool.and_eq_true,bx]at h
    . subst h;refine gO.a0 hi rfl ?_ h2;simp only[execOp,ho,h1,convert,Sem.run_bind,a_ hT hsu w,a_ hT hu w,Result.andThen_ok,aj,Sem.run_pure]
    . rename_i e;obtain⟨⟨hb,hl⟩,rfl⟩:=h;have hbu:=zm hT hb;have hr:=run_bytes_of_string (P:=P) w src dst e ⟨⟨s⟩⟩ (jp hT hsu) (jp hT hu) (jp hT hbu);have hge:=Dq w s.length 0 e (by omega);have hat:∀(i:Nat) (v:AV),(s.map jx)[i]? = some v->(bytesRow ⟨⟨s⟩⟩ (grownCap w (ByteArray.mk ⟨s⟩).size 0 e))[0+i]? = some (aj m v):=by
       intro i v hiv;rw[List.getElem?_map]at hiv;obtain⟨b,hb',rfl⟩:=Option.map_eq_some_iff.1 hiv;obtain⟨hlt,hbe⟩:=List.getElem?_eq_some_iff.1 hb';rw[Nat.zero_add,bytesRow_at _ _ i (by simpa using hlt)];simp[aj,jx,hbe]
      have hokb:fM D m (s.map jx):=by
       rw[df];intro v hm;obtain⟨b,_,rfl⟩:=List.mem_map.1 hm;exact bM (by simp[jx,aC])
      have he:=dw.j0 hi (.a (s.map jx) false none) ⟨w.heap.size,0,grownCap w s.length 0 e⟩ (.cells (bytesRow ⟨⟨s⟩⟩ (grownCap w (ByteArray.mk ⟨s⟩).size 0 e)) e ((bytesRow ⟨⟨s⟩⟩ (grownCap w (ByteArray.mk ⟨s⟩).size 0 e)).size,(bytesRow ⟨⟨s⟩⟩ (grownCap w (ByteArray.mk ⟨s⟩).size 0 e)).size+1)) (w0:=w.drew) rfl rfl rfl rfl rfl
       ⟨_,_,_,rfl,⟨hat,hokb,(λh=>by cases h),(λs h=>by cases h)⟩⟩
      refine⟨_,_,_,.value (.slice (some ⟨w.heap.size,0,none⟩) (ByteArray.mk ⟨s⟩).size (grownCap w (ByteArray.mk ⟨s⟩).size 0 e)),?_,.inl ?_,?_,he⟩
      . simp only[execOp,ho,h1,aj,Sem.run_bind,hr,Result.andThen_ok,Sem.run_pure]
      . simp only[aj,iR,aB.a0,fJ,Nat.sub_zero,Nat.add_zero];rfl
      . intro i hm;simp only[aC,List.mem_singleton,fi]at hm;subst hm;refine⟨tj,?_⟩;simp only[aB.a0,fJ,Nat.add_zero];exact hge
 case c id off len c=>
  obtain⟨h,h3⟩:=h;have hd:D id:=(h2 (id,fi len c) (by simp[aC])).1;simp only[po,ag,aA,Bool.and_eq_true,Option.some.injEq,mA]at h;obtain⟨e,he,⟨hb,hst⟩,cs,⟨cs0,hc0,hcs⟩,s,hs,h⟩:=h;have hbu:=zm hT hb;have hsu:=Ah hT hst;have hel:=fw he;have hcse:=qj hs;subst hcse;have hlen:s.length=len:=by
   have:=tX hcs;simpa using this
  refine gO.a0 hi h3 ?_ (bM (by rw[<-h];simp[aC]));rw[<-h];have hr:=run_convert_bytes_back (P:=P) w src dst e ⟨(m id).a0,(m id).b0+off,none⟩ (iR (m id) c) s (jp hT hel) (jp hT hbu) (jp hT hsu) (λj hj=>by
   rw[hJ,Nat.add_assoc];have hg:=At hcs (i:=j) (by omega);rw[List.getElem?_map,List.getElem?_eq_getElem hj]at hg;have:=(hi.h0 hd hc0 hg).1;simpa [aj,jx]using this)
  rw[hlen]at hr;simp only[execOp,ho,h1,aj,Sem.run_bind,hr,Result.andThen_ok,Sem.run_pure]
end
theorem zo(n:Nat)(h:n<=10000):IntKind.i64.wrap (n:Int)=(n:Int):=Bx .i64 _ (by simp only[eH];omega) (by simp only[eE];omega)
theorem qF{r:Nat}{x:Obj}(h:w.heap[r]? = some x)(hx:∀c e f,x≠.cells c e f):(getObj r).run P w=.ok x w:=by
 cases x<;>first|exact absurd rfl (hx _ _ _)|simp[getObj,Sem.run,h]
theorem qC{r:Nat}{x y:Obj}(h:w.heap[r]? = some x)(hx:∀c e f,x≠.cells c e f):(setObj r y).run P w=.ok () { w with heap:=w.heap.setIfInBounds r y }:=by
 cases x<;>first|exact absurd rfl (hx _ _ _)|simp[setObj,Sem.run,h]
theorem oa(w:World)(r:Nat)(x y:Obj)(h:w.heap[r]? = some x):({ w with heap:=w.heap.setIfInBounds r y }:World).heap[r]? = some y:=by
 grind
theorem y7{d:TypeDesc}{b:Bool}(hk:sG k (some d))(h:yU k e=some b):Instr.sameNow d (aj m k) (aj m e)=some b:=by
 cases d<;>simp only[sG,Bool.false_eq_true]at hk<;>cases k<;>simp at hk<;>cases e<;>simp only[yU,reduceCtorEq,aA,iv,Option.some.injEq]at h
 . subst h;simp[Instr.sameNow,aj,nc]
 . obtain⟨rfl,rfl⟩:=h;simp[Instr.sameNow,aj,vA]
 . subst h;simp only[Instr.sameNow,aj,Option.some.injEq,bV];rw[beq_toListBytes,ny,ny]
theorem xC{m:Nat->bv}{d:TypeDesc}{k:AV}(hk:sG k (some d)):∀{es:List (AV×AV)} {en:List MapEntry} {r:Option AV} {i:Nat},en.map (λe=>(e.key,e.val))=es.map (λe=>(aj m e.1,aj m e.2))->qq k es=some r->
 ∃q,Instr.findNow d (aj m k) en i=some q/\q.map (·.2)=r.map (aj m)
 | [],en,r,i,he,h=>by
   cases h;cases en with
   | nil=>exact⟨none,rfl,rfl⟩
   | cons _ _=>simp at he
 | e::es,en,r,i,he,h=>by
   cases en with
   | nil=>simp at he
   | cons n en=>
     simp only[List.map_cons,List.cons.injEq,Prod.mk.injEq]at he;obtain⟨⟨h1,h2⟩,he⟩:=he;simp only[qq,ag]at h;obtain⟨b,hb,h⟩:=h;have hs:=y7 (m:=m) hk hb;cases b with
     | true=>
       simp only[cond_true,Option.some.injEq]at h;subst h;exact⟨some (i,n.val),by simp[Instr.findNow,h1,hs],by simp[h2]⟩
     | false=>
       simp only[cond_false]at h;obtain⟨q,hq,hqr⟩:=xC hk (i:=i+1) he h;exact⟨q,by simp[Instr.findNow,h1,hs,hq],hqr⟩
theorem FD(h:yU k e=some true):k=e:=by
 cases e<;>simp only[yU,reduceCtorEq]at h<;>cases k<;>simp only[reduceCtorEq,aA,iv,Option.some.injEq]at h
 . rw[nc,beq_iff_eq]at h;rw[h]
 . rw[o7]at h;rw[h.1,h.2]
 . rw[bV,beq_iff_eq]at h;rw[h]
theorem vC{m:Nat->bv}{d:TypeDesc}{k v:AV}(hk:sG k (some d)):∀{es es':List (AV×AV)} {en:List MapEntry} {i:Nat},en.map (λe=>(e.key,e.val))=es.map (λe=>(aj m e.1,aj m e.2))->Iz k v es=some es'->
 ∃j x,Instr.findNow d (aj m k) en i=some (some (i+j,x))/\(∃e,en[j]? = some e/\e.key=aj m k)/\(en.modify j λe=>{ e with key:=aj m k,val:=aj m v }).map (λe=>(e.key,e.val))=es'.map (λe=>(aj m e.1,aj m e.2))
 | [],es',en,i,he,h=>by cases h
 | e::es,es',en,i,he,h=>by
   cases en with
   | nil=>simp at he
   | cons n en=>
     simp only[List.map_cons,List.cons.injEq,Prod.mk.injEq]at he;obtain⟨⟨h1,h2⟩,he⟩:=he;simp only[Iz,ag]at h;obtain⟨b,hb,h⟩:=h;have hs:=y7 (m:=m) hk hb;cases b with
     | true=>
       simp only[cond_true,Option.some.injEq]at h;subst h;exact⟨0,n.val,by simp[Instr.findNow,h1,hs],⟨n,rfl,by rw[h1,FD hb]⟩,by simp[he]⟩
     | false=>
       simp only[cond_false,ag,Option.some.injEq]at h;obtain⟨es1,hes,rfl⟩:=h;obtain⟨j,x,a1,⟨e1,a2,a3⟩,a4⟩:=vC hk (i:=i+1) he hes;refine⟨j+1,x,?_,⟨e1,by simpa using a2,a3⟩,?_⟩
       . simp only[Instr.findNow,h1,hs];rw[show i+(j+1)=i+1+j by omega,<-a1]
       . grind
theorem FX{D:Nat->Prop}{m:Nat->bv}{k v:AV}(hk:dh D m k)(hv:dh D m v):∀{es es':List (AV×AV)},Iz k v es=some es'->(∀e∈es,dh D m e.1/\dh D m e.2)->∀e∈es',dh D m e.1/\dh D m e.2
 | [],es',h,_=>by cases h
 | e::es,es',h,ho=>by
   simp only[Iz,ag]at h;obtain⟨b,hb,h⟩:=h;cases b with
   | true=>
     grind
   | false=>
     simp only[cond_false,ag,Option.some.injEq]at h;obtain⟨es1,hes,rfl⟩:=h;intro x hx;rcases List.mem_cons.1 hx with rfl|hx
     . grind
     . exact FX hk hv hes (λe he=>ho e (List.mem_cons_of_mem _ he)) x hx
theorem zE{d:TypeDesc}(hk:sG k (some d)):Instr.sameBits 10000 (aj m k) (aj m k)=true:=by
 cases d<;>simp only[sG,Bool.false_eq_true]at hk<;>cases k<;>simp at hk<;>simp only[aj,Instr.sameBits]<;>first|(simp;done)|(rw[beq_toListBytes];simp)
theorem rG{d:TypeDesc}{t:TypeId}{b:Bool}(hk:sG k (some d))(hu:(underlying t).run P w=.ok d w):(Instr.checkKey b 10000 t (aj m k)).run P w=.ok () w:=by
 unfold Instr.checkKey;simp only[Sem.run_bind,hu,Result.andThen_ok];cases d<;>simp only[sG,Bool.false_eq_true]at hk<;>cases k<;>simp at hk<;>simp[aj]
theorem wg{d:TypeDesc}{t:TypeId}{es:List (AV×AV)}{en:List MapEntry}{r:Option AV}(hk:sG k (some d))(hu:(underlying t).run P w=.ok d w)
 (he:en.map (λe=>(e.key,e.val))=es.map (λe=>(aj m e.1,aj m e.2))) (h:qq k es=some r):∃q,(Instr.findKey t (aj m k) en).run P w=.ok q w/\q.map (·.2)=r.map (aj m):=by
 obtain⟨q,hq,hqr⟩:=xC (m:=m) hk (i:=0) he h;exact⟨q,by simp[Instr.findKey,hu,hq],hqr⟩
theorem Ad{D:Nat->Prop}{m:Nat->bv}{k v:AV}:∀{es:List (AV×AV)},qq k es=some (some v)->(∀e∈es,dh D m e.1/\dh D m e.2)->dh D m v
 | [],h,_=>by cases h
 | e::es,h,ho=>by
   simp only[qq,ag]at h;obtain⟨b,hb,h⟩:=h;cases b with
   | true=>simp only[cond_true,Option.some.injEq]at h;subst h;exact(ho e (by simp)).2
   | false=>simp only[cond_false]at h;exact Ad h (λe he=>ho e (by simp[he]))
section
variable{P:Program}{T:fm}(hT:fH P T){cfg:cL}{C:bg}{D:Nat->Prop}{m:Nat->bv}{o:aB}{w:World}(hi:dX cfg D m C o w){ρ:Operand->Option AV}{ev:Operand->Value}(hρ:mE D m ρ ev)
include hT hi hρ
omit hi hρ in
theorem xO{t:TypeId}(h:s_ T t):∃i,T.b0 t=some i/\i.bytes<=100000:=by
 unfold s_ at h;split at h
 . simp_all
 . cases h
theorem B2{t:TypeId}{l c:Operand}(ho:oo.op=.makeSlice t l c)(h:ik t l c T C ρ o=some r):vy P cfg C D m o w ev oo r:=by
 simp only[ik,na,ag,aA,Bool.and_eq_true,bx,cQ,aU,Option.some.injEq]at h;obtain⟨lv,hlv,cv,hcv,elem,he,n,hn,z,hz,cn,hcn,ln,hln,⟨⟨⟨⟨hl,h0⟩,hb⟩,hsm⟩,_⟩,rfl⟩:=h;obtain⟨kc,rfl,hc1⟩:=pj hcn;obtain⟨kl,rfl,hl1⟩:=pj hln;have e1:=(hρ l _ hlv).1;have e2:=(hρ c _ hcv).1;obtain⟨hz1,hz2⟩:=mc hT (m:=m) hz w;obtain⟨inf,hinf,hby⟩:=xO hT hsm;have hmul:inf.bytes*cn<=100000*10000:=Nat.mul_le_mul hby hc1;have hmul2:inf.bytes*ln<=100000*10000:=Nat.mul_le_mul hby (Nat.le_trans hl1 hc1);have hcs:fM D m (mX (bU z) cn):=Cl (rM hz2) cn;have he':=dw.j0 hi (.a (mX (bU z) cn) true none) ⟨w.heap.size,0,0⟩ (.cells (ap m (mX (bU z) cn)).toArray elem) rfl rfl rfl rfl rfl (tH rfl hcs);refine⟨_,_,_,.value (.slice (some ⟨w.heap.size,0,none⟩) ln cn),?_,.inl ?_,?_,he'⟩
 . have hrep:(Array.range (cn*n)).map (λi=>(if cn*n=0 then #[]else(ap m (bU z)).toArray)[i%(if cn*n=0 then #[]else(ap m (bU z)).toArray).size]!)=(ap m (mX (bU z) cn)).toArray:=by
    by_cases hz0:cn*n=0
    . have:cn=0:=by rcases Nat.mul_eq_zero.1 hz0 with h|h<;>omega
      subst this;apply Array.toList_inj.1;simp[mX,ap]
    . rw[if_neg hz0];exact DA (m:=m) (bU z) (by omega) cn (cn*n) (by rw[hl])
   have hw1:=zo cn hc1;have hw2:=zo ln (by omega);have t1:¬((cn:Int)<0):=by omega
   have t2:¬((inf.bytes:Int)*(cn:Int) > 2^48):=by
    omega
   have t3:¬((ln:Int)<0):=by omega
   have t4:¬((ln:Int) > (cn:Int)):=by omega
   simp only[execOp,ho,e1,e2,aj,Int.ofNat_eq_natCast,Instr.makeSlice,Sem.run_bind,a_ hT (fw he) w,Result.andThen_ok,asInt,asIntOf,Sem.run_pure,pg hT hinf w,hw1,hw2,t1,t2,t3,t4,decide_false,Bool.or_self,Bool.false_eq_true,if_false,run_askRoom,ep hT hn w,Int.toNat_natCast];by_cases hz0:cn*n=0
   . simp only[hz0,if_true,Sem.run_pure,Result.andThen_ok]at hrep ⊢;simp only[hrep,newRow,Sem.run_bind,run_newObj,Result.andThen_ok,Sem.run_pure];rfl
   . simp only[hz0,if_false,Sem.run_pure,Result.andThen_ok,Sem.run_bind,hz1,fV]at hrep ⊢;simp only[hrep,newRow,Sem.run_bind,run_newObj,Result.andThen_ok,Sem.run_pure];rfl
 . simp[aj,iR,aB.a0,fJ]
 . intro i hm;simp only[aC,List.mem_singleton,fi]at hm;subst hm;exact⟨tj,Nat.zero_le _⟩
omit hi hρ in
theorem pC{t kt et:TypeId}(h:H3 (T.a0 t)=some (kt,et)):T.a0 t=some (.map kt et):=by
 cases hu:T.a0 t with
 | none=>simp[hu,H3]at h
 | some d=>cases d<;>simp[hu,H3]at h;simp[h]
theorem DM{t:TypeId}{mo k:Operand}(ho:oo.op=.insert t mo k x\/oo.op=.mapUpdate t mo k x)(h:lc t mo k x T C ρ o=some r):vy P cfg C D m o w ev oo r:=by
 simp only[lc,BC,ag,aA]at h;obtain⟨mv,hmv,kv,hkv,v,hv,⟨kt,et⟩,hmt,hkd,h⟩:=h;simp only at hkd;obtain⟨e1,o1⟩:=hρ mo _ hmv;obtain⟨e2,o2⟩:=hρ k _ hkv;obtain⟨e3,o3⟩:=hρ x _ hv;cases mv<;>simp only[wV,reduceCtorEq,ag]at h;rename_i id;have hd:D id:=(o1 (id,0) (by simp[aC])).1;obtain⟨y,hy,es,hes,rr,hf,h⟩:=h;cases y<;>simp only[lX,reduceCtorEq,Option.some.injEq]at hes;subst hes;have hob:=hi.a0 id hd;rw[fI hy]at hob;obtain⟨en,ck,hb,hen,hoe⟩:=hob;cases hud:T.a0 kt with
 | none=>rw[hud]at hkd;simp[sG]at hkd
 | some d=>
   rw[hud]at hkd;have hck:=rG (P:=P) (w:=w) (m:=m) (b:=false) hkd (a_ hT hud w);have hg:=qF (P:=P) hb (by simp);cases rr with
   | none=>
     simp only[Option.some.injEq]at h;subst h;obtain⟨q,hq,hqr⟩:=wg (P:=P) (w:=w) (m:=m) hkd (a_ hT hud w) hen hf;have hq0:q=none:=by cases q<;>simp at hqr;rfl
     subst hq0;have hst:=qC (P:=P) (y:=.map (en.push { key:=aj m kv,val:=aj m v,born:=ck }) (ck+1)) hb (by simp);refine⟨D,m,{ w with heap:=w.heap.setIfInBounds (m id).a0 (.map (en.push { key:=aj m kv,val:=aj m v,born:=ck }) (ck+1)) },.skip,?_,.inr ⟨rfl,rfl⟩,iy,dw.n0 hi hd hy rfl ?_ ?_ ?_ rfl rfl rfl⟩
     . have:(Instr.mapUpdate t (aj m (.q id)) (aj m kv) (aj m v)).run P w=.ok () { w with heap:=w.heap.setIfInBounds (m id).a0 (.map (en.push { key:=aj m kv,val:=aj m v,born:=ck }) (ck+1)) }:=by
        simp only[Instr.mapUpdate,aj,Sem.run_bind,a_ hT (pC hT hmt) w,Result.andThen_ok,hg,hck,hq,hst]
       rcases ho with ho|ho<;>simp only[execOp,ho,e1,e2,e3,Sem.run_bind,this,Result.andThen_ok,Sem.run_pure]
     . simp
     . grind
     . rw[oa _ _ _ _ hb];refine⟨_,_,rfl,?_,?_⟩
       . simp[hen]
       . grind
   | some old=>
     simp only[ag,Option.some.injEq]at h;obtain⟨es',hset,rfl⟩:=h;obtain⟨j,xv,hfn,⟨e0,he0,hek⟩,hmap⟩:=vC (m:=m) hkd (i:=0) hen hset;rw[Nat.zero_add]at hfn;have hq:(Instr.findKey kt (aj m kv) en.toList).run P w=.ok (some (j,xv)) w:=by simp[Instr.findKey,a_ hT hud w,hfn]
     have hst:=qC (P:=P) (y:=.map (en.modify j λe=>{ e with key:=aj m kv,val:=aj m v }) ck) hb (by simp);have hek':((en[j]?).map (·.key)).getD (aj m kv)=aj m kv:=by
      grind
     refine⟨D,m,{ w with heap:=w.heap.setIfInBounds (m id).a0 (.map (en.modify j λe=>{ e with key:=aj m kv,val:=aj m v }) ck) },.skip,?_,.inr ⟨rfl,rfl⟩,iy,dw.n0 hi hd hy rfl ?_ ?_ ?_ rfl rfl rfl⟩
     . have:(Instr.mapUpdate t (aj m (.q id)) (aj m kv) (aj m v)).run P w=.ok () { w with heap:=w.heap.setIfInBounds (m id).a0 (.map (en.modify j λe=>{ e with key:=aj m kv,val:=aj m v }) ck) }:=by
        simp only[Instr.mapUpdate,aj,Sem.run_bind,a_ hT (pC hT hmt) w,Result.andThen_ok,hg,hck,hq,hek',Instr.keyThatStays,zE hkd,if_true,Sem.run_pure,hst]
       rcases ho with ho|ho<;>simp only[execOp,ho,e1,e2,e3,Sem.run_bind,this,Result.andThen_ok,Sem.run_pure]
     . simp
     . grind
     . rw[oa _ _ _ _ hb];exact⟨_,_,rfl,by rw[Array.toList_modify];exact hmap,FX o2 o3 hset hoe⟩
theorem Ic{t:TypeId}{okv:Bool}(ho:oo.op=.lookup t x ix okv)(h:oe t x ix okv T C ρ o=some r):vy P cfg C D m o w ev oo r:=by
 simp only[oe,bK,C_,ag,aA]at h;obtain⟨⟨mv,hmv,kv,hkv,⟨kt,et⟩,hmt,hkd,h⟩,hr⟩:=h;simp only at hkd h;obtain⟨e1,o1⟩:=hρ x _ hmv;obtain⟨e2,o2⟩:=hρ ix _ hkv;cases mv<;>simp only[rX,reduceCtorEq,ag]at h;rename_i id;have hd:D id:=(o1 (id,0) (by simp[aC])).1;obtain⟨es,hes,rr,hf,h⟩:=h;have hob:=hi.a0 id hd;cases hy:get C o id<;>simp only[hy,lX,reduceCtorEq,Option.some.injEq]at hes;subst hes;rw[hy]at hob;obtain⟨en,ck,hb,hen,hoe⟩:=hob;cases hud:T.a0 kt with
 | none=>rw[hud]at hkd;simp[sG]at hkd
 | some d=>
   rw[hud]at hkd;obtain⟨q,hq,hqr⟩:=wg (P:=P) (w:=w) (m:=m) hkd (a_ hT hud w) hen hf;have hck:=rG (P:=P) (w:=w) (m:=m) (b:=en.isEmpty) hkd (a_ hT hud w);have hg:=qF (P:=P) hb (by simp);cases rr with
   | some v=>
     simp only[Option.some.injEq]at h;have hv:=Ad hf hoe;cases q with
     | none=>simp at hqr
     | some q=>
       simp only[Option.map_some,Option.some.injEq]at hqr;refine gO.a0 hi hr ?_ ?_
       . rw[<-h];simp only[execOp,ho,e1,e2,aj,Instr.lookup,Sem.run_bind,a_ hT (pC hT hmt) w,Result.andThen_ok,hg,hck,hq,Sem.run_pure];cases okv<;>simp[py,aj,ap,hqr]
       . rw[<-h];cases okv
         . exact hv
         . exact gh.2 (ct.2 ⟨hv,ct.2 ⟨sj,fQ⟩⟩)
   | none=>
     simp only[ag,Option.some.injEq]at h;obtain⟨z,hz,h⟩:=h;obtain⟨hz1,hz2⟩:=mc hT (m:=m) hz w;have hq0:q=none:=by cases q<;>simp at hqr;rfl
     subst hq0;refine gO.a0 hi hr ?_ ?_
     . rw[<-h];simp only[execOp,ho,e1,e2,aj,Instr.lookup,Sem.run_bind,a_ hT (pC hT hmt) w,Result.andThen_ok,hg,hck,hq,Sem.run_pure,hz1];cases okv<;>simp[py,aj,ap]
     . rw[<-h];cases okv
       . exact bM hz2
       . exact gh.2 (ct.2 ⟨bM hz2,ct.2 ⟨sj,fQ⟩⟩)
theorem MF{t:TypeId}(ho:oo.op=.range t x)(h:rJ t x T C ρ o=some r):vy P cfg C D m o w ev oo r:=by
 simp only[rJ,ag]at h;obtain⟨v,hv,h⟩:=h;obtain⟨e1,o1⟩:=hρ x _ hv;cases v<;>simp only[Fe,reduceCtorEq,aA,Option.some.injEq]at h;rename_i s;obtain⟨hs,rfl⟩:=h;have he':=dw.j0 hi (.d s 0) ⟨w.heap.size,0,0⟩ (.stringIter ⟨⟨s⟩⟩ 0) rfl rfl rfl rfl rfl ⟨rfl,rfl⟩;refine⟨_,_,_,.value (.pointer (some ⟨w.heap.size,0,none⟩)),?_,.inl ?_,yI,he'⟩
 . simp only[execOp,ho,e1,aj,Instr.range,Sem.run_bind,a_ hT (wT hs) w,Result.andThen_ok,Sem.run_pure,run_newObj];rfl
 . simp[aj,aB.a0,fJ]
omit hT in
theorem Nj{it:Operand}{s:Bool}(ho:oo.op=.next it s)(h:qS it s T C ρ o=some r):vy P cfg C D m o w ev oo r:=by
 simp only[qS,aA,ag]at h;obtain⟨rfl,v,hv,h⟩:=h;obtain⟨e1,o1⟩:=hρ it _ hv;unfold DN at h;split at h
 . rename_i id;simp only[ag]at h;obtain⟨y,hy,h⟩:=h;have hd:D id:=(o1 (id,0) (by simp[aC])).1;cases y<;>simp only[sf,reduceCtorEq,Option.some.injEq]at h;rename_i s pos;subst h;have hob:=hi.a0 id hd;rw[fI hy]at hob;obtain⟨hob,hbase⟩:=hob;have hg:=qF (P:=P) hob (by simp);have hsz:(ByteArray.mk ⟨s⟩).size=s.length:=rfl;unfold Dl;cases hlt:aS pos s.length with
   | true=>
     have hp:=aU.1 hlt;simp only[cond_true];have hst:=qC (P:=P) (y:=.stringIter ⟨⟨s⟩⟩ (pos+(Utf8.decode ⟨⟨s⟩⟩ pos).2)) hob (by simp);refine⟨D,m,{ w with heap:=w.heap.setIfInBounds (m id).a0 (.stringIter ⟨⟨s⟩⟩ (pos+(Utf8.decode ⟨⟨s⟩⟩ pos).2)) },.value (.tuple #[.bool true,.int .i64 pos,.int .i32 (Utf8.decode ⟨⟨s⟩⟩ pos).1]),?_,.inl ?_,?_,dw.n0 hi hd hy rfl ?_ ?_ ?_ rfl rfl rfl⟩
     . simp only[execOp,ho,e1,aj,hbase,Instr.next,Sem.run_bind,hg,Result.andThen_ok,hsz,if_pos hp,hst,Sem.run_pure,Go.goInt]
     . simp[aj,ap,gE,GP]
     . exact gh.2 (ct.2 ⟨sj,ct.2 ⟨by rw[gE];exact wJ,ct.2 ⟨by rw[GP];exact wJ,fQ⟩⟩⟩)
     . simp
     . grind
     . rw[oa _ _ _ _ hob];exact⟨rfl,hbase⟩
   | false=>
     have hp:¬pos<s.length:=by have:=ou.1 hlt;omega
     simp only[cond_false];refine gO.a0 hi rfl ?_ (gh.2 (ct.2 ⟨sj,fQ⟩));simp only[execOp,ho,e1,aj,hbase,Instr.next,Sem.run_bind,hg,Result.andThen_ok,hsz,if_neg hp,Sem.run_pure,ap]
 . cases h
end
end Go.Ev
