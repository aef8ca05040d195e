import Derived.Laws.StructEq
import Derived.Laws.CopyRow
import Derived.Laws.Slices
import Derived.Test.YtcffhjfdlflbgaaGreatDoorP04
set_option linter.all false
open Option.some renaming injEq->ν
open Nat renaming le_refl->ξ
open Option renaming isNone_iff_eq_none->ο,map_none->ς
open Bool renaming and_eq_true->π,not_eq_true'->σ,or_eq_true->τ
open List renaming length_take->υ
set_option linter.all false
set_option maxRecDepth 100000
set_option maxHeartbeats 4000000
namespace Go.Ev
open Go Go.RowKit
variable{a:Int}{D:Nat->Prop}{m:Nat->bv}{k:IntKind}{b:Bool}{n off id mm h t f i:Nat}{x y v:AV}{op:BinOp}{xo yo:Operand}{vs:List AV}{P:Program}{C:bg}{o':aB}{w:World}{T:fm}{r:AV×aB}
theorem iv{a b:IntKind}:zb a b=true↔a=b:=by
 rw[zb,cQ];cases a<;>cases b<;>simp[abw]
theorem X3{b:Int}:ab a b=true↔a<=b:=by
 cases a<;>cases b<;>simp only[ab]<;>grind [eK]
theorem o7{b:Int}:aa a b=true↔a=b:=by
 cases a<;>cases b<;>simp only[aa]<;>grind [cQ]
theorem vA(a b:Int):aa a b=(a==b):=by
 grind [o7]
theorem q5(a b:Int):ab a b=decide (a<=b):=by
 grind [X3]
theorem lk(k:IntKind)(n:Int):IV k n=.a k n:=by
 cases n with
 | ofNat n=>cases n<;>rfl
 | negSucc n=>cases n<;>rfl
theorem gE(n:Nat):goInt n=.a .i64 n:=by cases n<;>rfl
theorem GP(k:IntKind)(n:Nat):H0 k .ofNat n=.a k n:=by cases n<;>rfl
theorem Bx(k:IntKind)(n:Int)(h1:eH k<=n)(h2:n<=eE k):k.wrap n=n:=by
 cases k<;>simp only[eH,eE]at h1 h2<;>simp[IntKind.wrap,IntKind.bits,IntKind.signed]<;>omega
theorem Lf(k:IntKind)(n:Int):DD k n=k.wrap n:=by
 grind [DD,X3,Bx]
theorem sP(k:IntKind)(n:Int):iU k n=some (.a k (k.wrap n)):=by rw[iU,lk,Lf]
theorem wJ{n:Int}:dh D m (.a k n):=λi hi=>by simp[aC]at hi
theorem sj:dh D m (.b b):=λi hi=>by simp[aC]at hi
theorem nc(a b:Bool):bQ a b=(a==b):=by cases a<;>cases b<;>rfl
theorem bV:∀a b:List UInt8,ae a b=(a==b)
 | [],[]=>rfl
 | [],_::_=>rfl
 | _::_,[]=>rfl
 | a::x,b::y=>by
   rw[ae,bV x y,List.cons_beq_cons];grind [cQ,UInt8.toNat_inj]
theorem xP:∀a b:List UInt8,acg a b=Op.bytesLess a b
 | [],[]=>rfl
 | [],_::_=>rfl
 | _::_,[]=>rfl
 | a::x,b::y=>by
   rw[acg,xP x y,Op.bytesLess];have e1:aS a.toNat b.toNat=decide (a<b):=by rw[Bool.eq_iff_iff,aU,decide_eq_true_iff];rfl
   grind [cQ,UInt8.toNat_inj]
theorem ny(s:List UInt8):(ByteArray.mk ⟨s⟩).toList=s:=ByteArray.toList_mk s
section
variable{P:Program}{T:fm}(hT:fH P T)
include hT
theorem qr{n:Nat}{m:Nat->bv}(cmp:TypeId->AV->AV->Option Bool)(hc:∀t x y b,cmp t x y=some b->∀w,(Op.equalIn n t (aj m x) (aj m y)).run P w=.ok b w)(xs ys:List AV) :
 ∀(fs:List Field) (b:Bool),jd T cmp xs ys fs=some b->∀w,(Op.eqFields n (aD m xs).toArray (aD m ys).toArray fs).run P w=.ok b w
 | [],b,h,w=>by cases h;rfl
 | f::fs,b,h,w=>by
   simp only[jd,aA,ag,σ]at h;obtain⟨h1,x,hx,y,hy,r,hr,h⟩:=h;have hne:f.name ≠ "_" := by grind
   simp only[Op.eqFields,if_pos hne,Sem.run_bind,kj hT hx w,kj hT hy w,Result.andThen_ok,hc _ _ _ _ hr w];cases r with
   | true=>
     simp only[cond_true]at h;simpa using qr cmp hc xs ys fs b h w
   | false=>
     simp_all
theorem rN{n sz:Nat}{m:Nat->bv}(elem:TypeId)(cmp:AV->AV->Option Bool)(hc:∀x y b,cmp x y=some b->∀w,(Op.equalIn n elem (aj m x) (aj m y)).run P w=.ok b w)(xs ys:List AV) :
 ∀(len i:Nat) (b:Bool),kO T cmp elem sz xs ys i len=some b->∀w,
  (forIn (List.range' i len) ((none,()):Option Bool×PUnit) (λj _=>do
    let a <-part elem (aD m xs).toArray (j*sz)
    let c <-part elem (aD m ys).toArray (j*sz)
    let r <-Op.equalIn n elem a c
    if(!r)=true then pure (ForInStep.done (some false,()))else pure (ForInStep.yield (none,())):Nat->Option Bool×PUnit->Sem (ForInStep (Option Bool×PUnit)))).run P w =
  .ok (if b then none else some false,()) w
 | 0,i,b,h,w=>by cases h;simp
 | len+1,i,b,h,w=>by
   simp only[kO,ag]at h;obtain⟨x,hx,y,hy,r,hr,h⟩:=h;simp only[List.range'_succ,List.forIn_cons,Sem.run_bind,kj hT hx w,kj hT hy w,Result.andThen_ok,hc _ _ _ hr w];cases r with
   | true=>
     simp only[cond_true]at h;simpa using rN elem cmp hc xs ys len (i+1) b h w
   | false=>
     simp_all
theorem C5{len sz:Nat}{t elem:TypeId}(ht:T.a0 t=some (.array len elem))(hs:gT T elem=some sz)(cmp:AV->AV->Option Bool)(hc:∀x y b,cmp x y=some b->∀w,(Op.equalIn n elem (aj m x) (aj m y)).run P w=.ok b w)
 (xs ys:List AV) (b:Bool) (h:kO T cmp elem sz xs ys 0 len=some b) (w:World):(Op.equalIn (n+1) t (.agg (aD m xs).toArray) (.agg (aD m ys).toArray)).run P w=.ok b w:=by
 simp only[Op.equalIn,Sem.run_bind,a_ hT ht w,Result.andThen_ok,lC hT hs w];have:=rN hT elem cmp hc xs ys len 0 b h w;rw[Std.Legacy.Range.forIn_eq_forIn_range'];simp only[Std.Legacy.Range.size,Nat.sub_zero,Nat.add_sub_cancel,Nat.div_one];rw[this];cases b<;>simp
theorem BA{t:TypeId}{fs:Array Field}(ht:T.a0 t=some (.struct fs))(hs:P.stoodInHeld t=false)(cmp:TypeId->AV->AV->Option Bool)(hc:∀t x y b,cmp t x y=some b->∀w,(Op.equalIn n t (aj m x) (aj m y)).run P w=.ok b w)
 (xs ys:List AV) (b:Bool) (h:jd T cmp xs ys fs.toList=some b) (w:World):(Op.equalIn (n+1) t (.agg (aD m xs).toArray) (.agg (aD m ys).toArray)).run P w=.ok b w:=by
 grind [jp,Program.fieldsOf,run_equalIn_struct,qr]
theorem Ay{t:TypeId}(h:DG (T.a0 t) x y=some b)(w:World):(Op.equalIn (n+1) t (aj m x) (aj m y)).run P w=.ok b w:=by
 simp only[DG,aA,ν,π,cQ]at h;obtain⟨⟨⟨h1,h2⟩,h3⟩,rfl⟩:=h;cases hd:T.a0 t with
 | none=>rw[hd]at h1 h2;cases x<;>simp[Ef,GL]at h1
 | some d=>
   rw[hd]at h1 h2;have hr:=a_ hT hd w;cases d<;>simp only[GL]at h1 h2<;>cases x<;>simp only[Ef]at h1<;>(first|(exfalso;revert h1;decide)|skip)<;>
    cases y<;>simp only[Ef]at h2<;>(first|(exfalso;revert h2;decide)|skip)<;>(first|(simp[tJ]at h3;done)|simp[Op.equalIn,hr,aj,tJ])
theorem OT(cmp:TypeId->AV->AV->Option Bool)(hc:∀t x y b,cmp t x y=some b->∀w,(Op.equalIn n t (aj m x) (aj m y)).run P w=.ok b w)(t:TypeId)(x y:AV)(b:Bool)
 (h:MY T cmp t x y=some b) (w:World):(Op.equalIn (n+1) t (aj m x) (aj m y)).run P w=.ok b w:=by
 cases x with
 | b a=>
   cases y<;>simp only[MY,Cb,aA,ν,reduceCtorEq]at h;obtain⟨h1,rfl⟩:=h;cases hd:T.a0 t with
   | none=>grind [Kf]
   | some d=>cases d<;>simp[hd,Kf]at h1;simp[Op.equalIn,a_ hT hd w,aj,nc]
 | a k a=>
   cases y<;>simp only[MY,FH,aA,ν,reduceCtorEq,π,iv]at h;obtain⟨⟨h1,rfl⟩,rfl⟩:=h;cases hd:T.a0 t with
   | none=>grind [SK,Qx]
   | some d=>cases d<;>simp[SK,hd,Qx]at h1;simp[Op.equalIn,a_ hT hd w,aj,vA]
 | e a=>
   cases y<;>simp only[MY,Ex,aA,ν,reduceCtorEq]at h;obtain⟨h1,rfl⟩:=h;cases hd:T.a0 t with
   | none=>simp[zO,hd,zF]at h1
   | some d=>
     cases d<;>simp[zO,hd,zF]at h1;simp only[Op.equalIn,Sem.run_bind,a_ hT hd w,aj,bV,Result.andThen_ok,beq_toListBytes,ny,Sem.run_pure]
 | g xs=>
   cases y<;>simp only[MY,EI,reduceCtorEq]at h;rename_i ys;cases hd:T.a0 t with
   | none=>simp[hd,BV]at h
   | some d=>
     cases d<;>simp only[hd,BV,reduceCtorEq,ag]at h
     . obtain⟨sz,hs,h⟩:=h;simp only[aj];exact C5 hT hd hs _ (λx y b h w=>hc _ x y b h w) xs ys b h w
     . rename_i fields;obtain⟨e,he,h⟩:=h;simp only[aA,σ]at h;have hst:=(hT.ty t e he).2.2.2;have heu:e.u=.struct fields:=by
        have:=hd;simp only[fm.a0,he,ob,ν]at this;exact this
       simp only[aj];exact BA hT hd (by rw[hst (by rw[heu];rfl)];exact h.1) cmp hc xs ys b h.2 w
 | m a u=>
   cases y with
   | m c v=>
     simp only[MY,nZ,aA]at h;obtain⟨h1,h⟩:=h;cases hd:T.a0 t with
     | none=>simp[hd,EM]at h1
     | some d=>
       cases d<;>simp[hd,EM]at h1;by_cases e:a=c
       . subst e;rw[rY rfl,cond_true]at h;simp only[ag,aA]at h;obtain⟨i,hi,hcm,h⟩:=h;simp[Op.equalIn,a_ hT hd w,aj,pg hT hi w,hcm,hc _ _ _ _ h w]
       . rw[ic e,cond_false,ν]at h;subst h;simp[Op.equalIn,a_ hT hd w,aj,e]
   | _=>exact Ay hT (by simpa only[MY,nZ]using h) w
 | _=>exact Ay hT (by simpa only[MY]using h) w
theorem Bp{m:Nat->bv}:∀(d:Nat) (t:TypeId) (x y:AV) (b:Bool),N5 T d t x y=some b->∀n,d<=n->∀w,(Op.equalIn n t (aj m x) (aj m y)).run P w=.ok b w
 | 0,_,_,_,_,h,_,_,_=>by cases h
 | d+1,t,x,y,b,h,n,hn,w=>by
   obtain⟨n,rfl⟩:∃k,n=k+1:=⟨n-1,by omega⟩;exact OT hT (N5 T d) (λt x y b h w=>Bp d t x y b h n δ w) t x y b h w
end
section
variable{P:Program}{T:fm}(hT:fH P T)
theorem R0(a b:Int):decide (a<b)=!decide (b<=a):=η
theorem MU{t:TypeId}(h:KF op k a y=some v)(w:World) :
 (binOp op t (.int k a) (aj m y)).run P w=.ok (aj m v) w/\aC v=[]:=by
 cases y<;>simp only[KF,reduceCtorEq]at h;rename_i k' b;cases hs:pI op with
 | true=>
   simp only[hs,cond_true,Fw,aA,X3]at h;obtain⟨h0,h⟩:=h;have hb:¬b<0:=δ
   cases op<;>simp[pI]at hs
   . simp only[sP,ν]at h;subst h;simp[aj,binOp,Op.shift,hb,Cf,aC]
   . simp only[lk,ν]at h;subst h;simp[aj,binOp,Op.shift,hb,Cf,aC]
 | false=>
   simp only[hs,cond_false,aA,iv]at h;obtain⟨rfl,h⟩:=h;cases op<;>simp[pI]at hs;all_goals simp only[Ck,VC,Wp,Xu,Q5,Ti,Uj,HP,Nn,Hf,Tp,QZ,Qq,Qr,QY,Q_,Ee,sP,lk,aA,ν,σ,vA,q5,reduceCtorEq]at h
   all_goals first
    | (obtain⟨h0,h⟩:=h;subst h;simp_all [aj,binOp,Op.intDiv,aC])
    | (subst h;simp[aj,binOp,Op.intArith,Op.intBits,Op.intCmp,aC];done)
    | (subst h;simp[aj,binOp,Op.intArith,Op.intBits,Op.intCmp,aC];rfl)
    | (subst h;simp[aj,binOp,Op.intCmp,aC,R0])
theorem JO{t:TypeId}{a:List UInt8}(h:Jg op a y=some v)(w:World) :
 (binOp op t (.string ⟨⟨a⟩⟩) (aj m y)).run P w=.ok (aj m v) w/\aC v=[]:=by
 cases y<;>simp only[Jg,reduceCtorEq]at h;rename_i b;cases op<;>simp only[Ra,aA,ν,reduceCtorEq,eK]at h
 case add=>
  obtain⟨hl,rfl⟩:=h;have hn:¬(((ByteArray.mk ⟨a⟩).size+(ByteArray.mk ⟨b⟩).size:Nat):Int) > IntKind.i64.max:=by
   grind [ByteArray.size,IntKind.max,IntKind.bits]
  refine⟨?_,by rfl⟩;simp only[aj,binOp,Op.stringOp];rw[if_neg hn];rfl
 all_goals
  subst h;simp[aC,aj,binOp,Op.stringOp,bV,xP]
theorem pK{T:fm}{t:TypeId}(h:jK T t xo yo x y):ot x/\ot y=true:=by
 simp_all [jK]
def xh:AV->Bool
 | .a _ _|.e _|.j _=>false
 | _=>true
theorem FT{t:TypeId}(h:xh x)(hy:ot y):binOp .eql t (aj m x) (aj m y)=(do pure (.bool (<-Op.equal t (aj m x) (aj m y)))):=by
 cases x<;>simp[xh]at h<;>cases y<;>first|rfl|cases hy
theorem EF{t:TypeId}(h:xh x)(hy:ot y):binOp .neq t (aj m x) (aj m y)=(do pure (.bool (!(<-Op.equal t (aj m x) (aj m y))))):=by
 cases x<;>simp[xh]at h<;>cases y<;>first|rfl|cases hy
theorem jy{t:TypeId}{X Y:Value}(h1:¬(X=.nilIface/\Y=.nilIface))(h2:¬(∃a b,X=.agg a/\Y=.agg b))(w:World):(eqGuard op t xo yo X Y).run P w=.ok () w:=by
 simp_all [eqGuard]
include hT
theorem Ab{t:TypeId}(h:jK T t xo yo x y)(w:World):(eqGuard op t xo yo (aj m x) (aj m y)).run P w=.ok () w:=by
 obtain⟨hx,hy⟩:=pK h;cases x with
 | j v=>cases hx
 | g xs=>
   cases y with
   | j v=>cases hy
   | g ys=>
     simp only[jK,ot,Bool.true_and]at h;cases he:T.ty.c0 t with
     | none=>simp[he,ob]at h
     | some e=>
       simp only[he,ob,Option.getD_some,π,σ]at h;have:=(hT.ty t e he).2.2.1 h.1;grind [aj,run_eqGuard_agg]
   | _=>exact jy (by simp[aj]) (by simp[aj]) w
 | k=>
   cases y with
   | j v=>cases hy
   | k=>
     simp only[jK,ot,Bool.true_and,τ]at h;simp only[aj];rcases h with h|h
     . cases xo<;>simp[rV]at h;simp[eqGuard]
     . cases yo<;>simp[rV]at h;simp[eqGuard]
   | _=>exact jy (by simp[aj]) (by simp[aj]) w
 | _=>exact jy (by simp[aj]) (by simp[aj]) w
theorem JE{t:TypeId}(h:JC T op t xo yo x y=some v)(w:World) :
 (do eqGuard op t xo yo (aj m x) (aj m y);binOp op t (aj m x) (aj m y):Sem Value).run P w=.ok (aj m v) w/\aC v=[]:=by
 have key:xh x->C3 op (ok (jK T t xo yo x y) (N5 T 100 t x y))=some v->(do eqGuard op t xo yo (aj m x) (aj m y);binOp op t (aj m x) (aj m y):Sem Value).run P w=.ok (aj m v) w/\aC v=[]:=by
  intro hb h;cases op<;>simp only[C3,ag,aA,ν,reduceCtorEq]at h
  . obtain⟨b,⟨hg,he⟩,rfl⟩:=h;refine⟨?_,by rfl⟩;rw[Sem.run_bind,Ab hT hg w,Result.andThen_ok,FT hb (pK hg).2];simp[Op.equal,Op.maxDepth,Bp hT 100 t x y b he 10000 δ w,aj]
  . obtain⟨b,⟨hg,he⟩,rfl⟩:=h;refine⟨?_,by rfl⟩;rw[Sem.run_bind,Ab hT hg w,Result.andThen_ok,EF hb (pK hg).2];simp[Op.equal,Op.maxDepth,Bp hT 100 t x y b he 10000 δ w,aj]
 cases x with
 | a k a=>
   obtain⟨h1,h2⟩:=MU (P:=P) (t:=t) (m:=m) h w;simp_all [jy,aj]
 | e a=>
   obtain⟨h1,h2⟩:=JO (P:=P) (t:=t) (m:=m) h w;simp_all [jy,aj]
 | j a=>
   exfalso;have hg:jK T t xo yo (.j a) y=false:=by
    rfl
   simp only[JC,hg,ok,cond_false]at h;cases op<;>simp[C3,ob]at h
 | _=>exact key rfl h
omit hT in
theorem O6{op:UnOp}(h:UC op x=some v)(w:World):(Op.unary op (aj m x)).run P w=.ok (aj m v) w/\aC v=[]:=by
 cases x<;>simp only[UC,reduceCtorEq]at h
 . cases op<;>simp at h;subst h;simp[aj,Op.unary,aC]
 . cases op<;>simp only[sP,Nn,ν,reduceCtorEq]at h
   . subst h;simp[aj,Op.unary,Op.intArith,aC];grind
   . subst h;simp[aj,Op.unary,Op.intBits,aC]
end
theorem yD:∀{cs vs r:List AV},qh cs vs=some r->r=vs++cs.drop vs.length/\vs.length<=cs.length
 | cs,[],r,h=>by grind [qh]
 | [],_::_,r,h=>by cases h
 | c::cs,v::vs,r,h=>by
   simp only[qh,ag,ν]at h;obtain⟨r',hr,rfl⟩:=h;obtain⟨rfl,hl⟩:=yD hr;grind
theorem ji:∀{cs:List AV} {off:Nat} {vs r:List AV},adi cs off vs=some r->r=cs.take off++vs++cs.drop (off+vs.length)/\off+vs.length<=cs.length
 | cs,0,vs,r,h=>by
   have h':qh cs vs=some r:=by cases cs<;>exact h
   grind [yD]
 | [],n+1,vs,r,h=>by cases h
 | c::cs,n+1,vs,r,h=>by
   simp only[adi,ag,ν]at h;obtain⟨r',hr,rfl⟩:=h;obtain⟨rfl,hl⟩:=ji hr;grind
theorem HW{cs r:List AV}(h:adi cs off vs=some r):aD m r=(aD m cs).take off++aD m vs++(aD m cs).drop (off+(aD m vs).length):=by
 obtain⟨rfl,_⟩:=ji h;simp[d_]
theorem Gq{cs r:List AV}(h:adi cs off vs=some r)(hc:fM D m cs)(hv:fM D m vs):fM D m r:=by
 obtain⟨rfl,_⟩:=ji h;grind [df]
theorem J9{cs r:List AV}(h:adi cs off vs=some r)(i:Nat):r[i]? = if off<=i/\i<off+vs.length then vs[i-off]? else cs[i]? := by
 obtain⟨rfl,hl⟩:=ji h;grind [υ]
theorem Ek:∀(vs:List Value) (j off:Nat) (A:Array Value),off+j+vs.length<=A.size->
 ((vs.zipIdx j).foldl (λcs p=>cs.setIfInBounds (off+p.2) p.1) A).toList=A.toList.take (off+j)++vs++A.toList.drop (off+j+vs.length)
 | [],j,off,A,h=>by simp
 | v::vs,j,off,A,h=>by
   simp only[List.length_cons]at h;rw[List.zipIdx_cons,List.foldl_cons,Ek vs (j+1) off _ η];grind [list_seg_step]
theorem abr{m:Nat->bv}{place:Nat->Option (Nat×Nat)}:∀{ps:List (Nat×AV)} {cells r:List AV},vF place cells ps=some r->
 Instr.fill place (aD m cells).toArray (ps.map λp=>(p.1,aj m p.2))=some (aD m r).toArray
 | [],cells,r,h=>by cases h;rfl
 | p::ps,cells,r,h=>by
   simp only[vF,ag,aA,cQ]at h;obtain⟨q,hq,hl,r',hr,h⟩:=h;have hlen:=(ji hr).2;simp only[List.map_cons,Instr.fill,hq,fV];have h1:¬((aD m (bU p.2)).toArray.size≠q.2):=by simp[b7,hl]
   have h2:¬(q.1+(aD m (bU p.2)).toArray.size > (aD m cells).toArray.size):=by simp[b7];omega
   have hf:=Ek (aD m (bU p.2)) 0 q.1 (aD m cells).toArray η;have ih:=abr (m:=m) h;have e:(aD m (bU p.2)).toArray.zipIdx.foldl (λcs (x:Value×Nat)=>cs.setIfInBounds (q.1+x.2) x.1) (aD m cells).toArray=(aD m r').toArray:=by
    grind [HW]
   grind
theorem rZ{D:Nat->Prop}{m:Nat->bv}{place:Nat->Option (Nat×Nat)}:∀{ps:List (Nat×AV)} {cells r:List AV},vF place cells ps=some r->fM D m cells->(∀p∈ps,dh D m p.2)->fM D m r
 | [],cells,r,h,hc,_=>by cases h;omega
 | p::ps,cells,r,h,hc,hp=>by
   simp only[vF,ag,aA]at h;obtain⟨q,hq,hl,r',hr,h⟩:=h;exact rZ h (Gq hr hc (pL (hp p θ))) (λp hm=>hp p η)
theorem vK(w:World)(g:Nat)(cs:Array Value):(w.setRow g cs).heap.size=w.heap.size:=θ
theorem np{cfg:cL}{o:aB}(h:dX cfg D m C o w)(hd:D id)(hv:fM D m vs)(h1:dM vs)(hw:jO C o id off vs=some o') :
 ∃w',(storeCells ⟨(m id).a0,(m id).b0+off,none⟩ (aD m vs) 0).run P w=.ok () w'/\dw cfg C D m o w D m o' w':=by
 simp only[jO,ag,ν]at hw;obtain⟨x,hx,x',hx',rfl⟩:=hw;cases x<;>simp only[yr,reduceCtorEq]at hx';rename_i cs rw g;cases rw<;>simp only[reduceCtorEq,ag,ν]at hx';obtain⟨cs',hl,rfl⟩:=hx';have hob:=h.a0 id hd;rw[fI hx]at hob;obtain⟨c,e,fz,hb,hr⟩:=hob;obtain rfl:=hr.b0 rfl;have hokc:fM D m cs':=Gq hl hr.a0 hv;by_cases hnil:vs=[]
 . subst hnil;have:cs'=cs:=by
    obtain⟨rfl,_⟩:=ji hl;simp
   subst this;refine⟨w,rfl,dw.n0 h hd hx rfl (ξ _) (λ_ _=>rfl) ⟨c,e,(0,0),hb,hr⟩ rfl rfl rfl⟩
 . have hlen:=(ji hl).2;have hpos:0<vs.length:=List.length_pos_iff.2 hnil;have hfit:(m id).b0+off+vs.length<=c.size:=by
    have hi:off+vs.length-1<cs.length:=δ
    have:=hr.d0 (off+vs.length-1) _ (List.getElem?_eq_getElem hi);grind
   have hst:=run_storeCells_at P (m id).a0 ((m id).b0+off) e (aD m vs) 0 c w hb (by rw[b7];omega) (λv hvm=>by
    grind [d_,ZQ,abG])
   refine⟨_,hst,dw.n0 h hd hx rfl (Nat.le_of_eq (vK _ _ _).symm) (λk hk=>setRow_other _ _ _ _ hk) ?_ rfl rfl rfl⟩;refine⟨_,e,(0,0),setRow_heap w _ c _ e _ hb,⟨λi v hi=>?_,hokc,λ_=>rfl,λs hs=>?_⟩⟩
   . rw[J9 hl]at hi;simp only[Nat.add_zero,List.getElem?_toArray];rw[List.append_assoc,List.getElem?_append,υ,Array.length_toList,Nat.min_eq_left δ];by_cases hc1:off<=i/\i<off+vs.length
     . grind [b7,gi]
     . rw[if_neg hc1]at hi;have hci:=hr.d0 i v hi;by_cases hc2:i<off
       . grind
       . rw[if_neg δ,List.getElem?_append,if_neg (by rw[b7];omega),List.getElem?_drop,b7,Array.getElem?_toList];rw[<-hci];congr 1;omega
   . obtain⟨a1,a2,a3⟩:=hr.c0 s hs;refine⟨a1,a2,?_⟩;simp only[Nat.add_zero,List.size_toArray,List.length_append,υ,List.length_drop,Array.length_toList,b7];rw[<-a3];omega
section
variable{P:Program}{T:fm}(hT:fH P T)
include hT
theorem ED{cfg:cL}{o:aB}(h:dX cfg D m C o w){t:TypeId}{p:AV}(hp:dh D m p)(hv:dh D m v)(hs:yO T C o t v p=some o') :
 ∃w',(Instr.storeAt t (aj m p) (aj m v)).run P w=.ok () w'/\dw cfg C D m o w D m o' w':=by
 cases p<;>simp only[yO,reduceCtorEq,ag,aA,π,cQ]at hs;rename_i id off;obtain⟨n,hn,⟨hl,h1⟩,hw⟩:=hs;have hd:D id:=(hp (id,0) (by simp[aC])).1;obtain⟨w',hr,he⟩:=np (P:=P) h hd (pL hv) h1 hw;refine⟨w',?_,he⟩;have hsz:(aj m v).cells.size=n:=by grind [fV,b7]
 simp only[Instr.storeAt,aj,Instr.sureAddr,storeVar,Sem.run_bind,Sem.run_pure,Result.andThen_ok,lC hT hn w,hsz];grind [fV]
end
theorem pj{hi:Nat}(h:zR hi v=some n):∃k,v=.a k (.ofNat n)/\n<=hi:=by
 unfold zR at h;split at h
 . simp_all [aA];omega
 grind
theorem rS{most:Nat}{y:Nat}{code:BoundsCode}(h:zR most v=some n)(hy:most<=y)(w:World):(Instr.sliceBound (aj m v) y code).run P w=.ok n w:=by
 obtain⟨k,rfl,hn⟩:=pj h;grind [aj,run_sliceBound]
theorem jf{len cap c0 l:Nat}{lo hi mx:Option AV}(hc:mx=none->mm=cap)(hc':∀v,mx=some v->zR c0 v=some mm/\c0<=cap)
 (hm:mx=none\/hi.isSome) (hh:∃t,kq t len hi=some h/\t<=mm) (hl:kq h 0 lo=some l) (w:World) :
 (Instr.sliceBounds b len cap (lo.map (aj m)) (hi.map (aj m)) (mx.map (aj m))).run P w=.ok (l,h,mm) w:=by
 obtain⟨t,hh,ht⟩:=hh;unfold Instr.sliceBounds;cases mx with
 | none=>
   obtain rfl:=hc rfl;cases hi with
   | none=>
     simp only[kq,ν]at hh;subst hh;cases lo with
     | none=>simp_all [kq]
     | some lv=>simp only[kq]at hl;simp[rS hl (ξ _) w]
   | some hv=>
     simp only[kq]at hh;cases lo with
     | none=>simp only[kq,ν]at hl;subst hl;simp[rS hh ht w]
     | some lv=>simp only[kq]at hl;simp[rS hh ht w,rS hl (ξ _) w]
 | some mv=>
   obtain⟨h1,h2⟩:=hc' mv rfl;cases hi with
   | none=>grind
   | some hv=>
     simp only[kq]at hh;cases lo with
     | none=>simp only[kq,ν]at hl;subst hl;simp[rS h1 h2 w,rS hh ht w]
     | some lv=>simp only[kq]at hl;simp[rS h1 h2 w,rS hh ht w,rS hl (ξ _) w]
theorem aaV{d:Nat}{v:Option AV}(hb:kq t d v=some h)(hd:d<=t):h<=t:=by
 cases v with
 | none=>cases hb;omega
 | some v=>obtain⟨_,_,h⟩:=pj hb;omega
theorem lJ(id off size mm h l:Nat) :
 aj m (jn id off size mm h l)=.slice (if mm=l then some ⟨(m id).a0,(m id).b0+off,none⟩else some ((⟨(m id).a0,(m id).b0+off,none⟩:Addr).add (l*size))) (h-l) (mm-l):=by
 grind [jn,rY,aj,TI,ic,hJ]
theorem VP{size l:Nat}(hd:D id):dh D m (jn id off size mm h l):=by
 unfold jn;cases Nat.beq mm l<;>(intro i hi;grind [aC,rI])
theorem B7{e:Nat}(h:Ds T t=some (n,e)):T.a0 t=some (.array n e):=by
 unfold Ds at h;cases hu:T.a0 t with
 | none=>simp[hu,Tj]at h
 | some d=>cases d<;>simp[hu,Tj]at h;grind
theorem pA{e:Nat}(h:kr T t=some e):T.a0 t=some (.slice e):=by
 unfold kr at h;cases hu:T.a0 t with
 | none=>simp[hu,Di]at h
 | some d=>cases d<;>simp[hu,Di]at h;grind
theorem wT(h:zO T t):T.a0 t=some .string:=by
 grind [zO,zF]
theorem y_{fs:Array Field}(h:wI T t=some fs):T.a0 t=some (.struct fs):=by
 unfold wI at h;cases hu:T.a0 t with
 | none=>simp[hu,pH]at h
 | some d=>cases d<;>simp[hu,pH]at h;grind
section
variable{P:Program}{T:fm}(hT:fH P T)
include hT
theorem CM{t:TypeId}{lo hi mx:Option AV}(hx:dh D m x)(h:sw T t lo hi mx x=some v)(w:World) :
 (Instr.sliceAt t (aj m x) (lo.map (aj m)) (hi.map (aj m)) (mx.map (aj m))).run P w=.ok (aj m v) w/\dh D m v:=by
 cases x<;>simp only[sw,reduceCtorEq,ag,aA]at h
 case h id off=>
  have hd:D id:=(hx (id,0) (by simp[aC])).1;obtain⟨⟨n,e⟩,ha,size,hs,h⟩:=h;simp only[jh,aA,ag,ν,τ,ο]at h;obtain⟨hm,mm,h1,hh,h2,l,h3,rfl⟩:=h;refine⟨?_,VP hd⟩;have hb:=jf (P:=P) (m:=m) (b:=false) (len:=n) (cap:=n) (c0:=n) (mm:=mm) (lo:=lo) (hi:=hi) (mx:=mx) (λe=>by subst e;cases h1;rfl) (λv e=>by subst e;exact⟨h1,ξ _⟩) hm ⟨mm,h2,ξ _⟩ h3 w;simp only[Instr.sliceAt,Sem.run_bind,a_ hT (B7 ha) w,Result.andThen_ok,aj,Instr.sureAddr,Sem.run_pure,hb,lC hT hs w,lJ];grind
 case e s=>
  obtain⟨hst,h⟩:=h;simp only[π,ο]at hst;obtain⟨hst,rfl⟩:=hst;simp only[xI,ag,ν]at h;obtain⟨hh,h2,l,h3,rfl⟩:=h;refine⟨?_,ek κ⟩;have hsz:(ByteArray.mk ⟨s⟩).size=s.length:=rfl;have hb:=jf (P:=P) (m:=m) (b:=false) (len:=s.length) (cap:=s.length) (c0:=0) (mm:=s.length) (lo:=lo) (hi:=hi) (mx:=none) (λ_=>rfl) (λv e=>by grind) (.inl rfl) ⟨s.length,h2,ξ _⟩ h3 w;simp only[ς]at hb;simp only[Instr.sliceAt,Sem.run_bind,a_ hT (wT hst) w,Result.andThen_ok,aj,Instr.slice,ς,hsz,hb,Option.isSome_none,Bool.false_eq_true,if_false,Sem.run_pure];congr 2
  apply ByteArray.ext;grind [ByteArray.data_extract]
 case f=>
  obtain⟨e,he,sz,hs,h⟩:=h;simp only[xV,aA,ag,ν,τ,ο]at h;obtain⟨hm,mm,h1,hh,h2,l,h3,rfl⟩:=h;refine⟨?_,ek κ⟩;have hm0:mm=0:=Nat.le_zero.1 (aaV h1 (ξ _));have hh0:hh=0:=Nat.le_zero.1 (aaV h2 (ξ _));subst hm0 hh0;have hl0:l=0:=Nat.le_zero.1 (aaV h3 (ξ _));subst hl0;have hb:=jf (P:=P) (m:=m) (b:=true) (len:=0) (cap:=0) (c0:=0) (mm:=0) (lo:=lo) (hi:=hi) (mx:=mx) (λ_=>rfl) (λv e=>by subst e;exact⟨h1,ξ _⟩) hm ⟨0,h2,ξ _⟩ h3 w;simp only[Instr.sliceAt,Sem.run_bind,a_ hT (pA he) w,Result.andThen_ok,aj,Instr.slice,hb,lC hT hs w,Sem.run_pure,if_true,Nat.sub_zero]
 case c id off len c=>
  have hd:D id:=(hx (id,rI len c) (by simp[aC])).1;have hneed:=(hx (id,rI len c) (by simp[aC])).2;obtain⟨e,he,size,hs,h⟩:=h;cases c with
  | a c=>
    simp only[og,jh,aA,ag,ν,τ,ο]at h;obtain⟨hm,mm,h1,hh,h2,l,h3,rfl⟩:=h;refine⟨?_,VP hd⟩;have hb:=jf (P:=P) (m:=m) (b:=true) (len:=len) (cap:=c) (c0:=c) (mm:=mm) (lo:=lo) (hi:=hi) (mx:=mx) (λe=>by subst e;cases h1;rfl) (λv e=>by subst e;exact⟨h1,ξ _⟩) hm ⟨mm,h2,ξ _⟩ h3 w;simp only[Instr.sliceAt,Sem.run_bind,a_ hT (pA he) w,Result.andThen_ok,aj,TI,Instr.slice,hb,lC hT hs w,Sem.run_pure,lJ];rfl
  | b k=>
    simp only[rI]at hneed;cases mx with
    | none=>
      simp only[og,vu,ag]at h;obtain⟨hh,h2,l,h3,h⟩:=h;have hhl:hh<=len:=aaV h2 (ξ _);have hll:l<=hh:=aaV h3 (Nat.zero_le _);have hb:=jf (P:=P) (m:=m) (b:=true) (len:=len) (cap:=(m id).c0-k) (c0:=0) (mm:=(m id).c0-k) (lo:=lo) (hi:=hi) (mx:=none) (λ_=>rfl) (λv e=>by grind) (.inl rfl) ⟨len,h2,by omega⟩ h3 w;simp only[ς]at hb;simp only[ph]at h;by_cases hl0:l=0
      . rw[rY hl0,cond_true,ν]at h;subst h hl0;refine⟨?_,λi hi=>?_⟩
        . simp only[Instr.sliceAt,Sem.run_bind,a_ hT (pA he) w,Result.andThen_ok,aj,TI,Instr.slice,hb,lC hT hs w,Sem.run_pure,Nat.zero_mul,ς,Option.map_some,hJ,Nat.add_zero,ite_self,Nat.sub_zero]
        grind [aC,rI]
      . rw[ic hl0,cond_false,aA,aU,ν]at h;obtain⟨hlt,rfl⟩:=h;refine⟨?_,λi hi=>?_⟩
        . have hne:¬((m id).c0-k=l):=δ
          simp only[Instr.sliceAt,Sem.run_bind,a_ hT (pA he) w,Result.andThen_ok,aj,TI,Instr.slice,hb,lC hT hs w,Sem.run_pure,ς,Option.map_some,hJ,if_neg hne];grind
        grind [aC,rI]
    | some mv=>
      simp only[og,nq,aA,ag,ν]at h;obtain⟨hm,mm,h1,hh,h2,l,h3,rfl⟩:=h;refine⟨?_,VP hd⟩;have hb:=jf (P:=P) (m:=m) (b:=true) (len:=len) (cap:=(m id).c0-k) (c0:=len) (mm:=mm) (lo:=lo) (hi:=hi) (mx:=some mv) (λe=>by grind) (λv e=>by grind) (.inr hm) ⟨mm,h2,ξ _⟩ h3 w;simp only[Instr.sliceAt,Sem.run_bind,a_ hT (pA he) w,Result.andThen_ok,aj,TI,Instr.slice,hb,lC hT hs w,Sem.run_pure,lJ];rfl
theorem zP{s:TypeId}(hx:dh D m x)(h:qx T s f x=some v)(w:World):(Instr.fieldAt s (aj m x) f).run P w=.ok (aj m v) w/\dh D m v:=by
 simp only[qx,wb,ag,aA,ν,aU]at h;obtain⟨fs,hs,q,⟨fd,hf,n,hn,rfl⟩,hp,h⟩:=h;cases x<;>simp only[Jd,reduceCtorEq,ν]at h;rename_i id off;subst h;have hd:D id:=(hx (id,0) (by simp[aC])).1;have hne:¬n=0:=δ
 refine⟨?_,λi hi=>by grind [aC]⟩;simp[Instr.fieldAt,a_ hT (y_ hs) w,hf,aj,Instr.sureAddr,fieldPlace,lC hT hn w,hne,hJ,Nat.add_assoc]
theorem HJ{s:TypeId}(hx:dh D m x)(h:Ew T s f x=some v)(w:World):(Instr.field s (aj m x) f).run P w=.ok (aj m v) w/\dh D m v:=by
 cases x<;>simp only[Ew,reduceCtorEq,ag]at h;obtain⟨fs,hs,fd,hf,h⟩:=h;refine⟨?_,CX hT h (aak.1 hx)⟩;simp[Instr.field,a_ hT (y_ hs) w,hf,aj,asAgg,kj hT h w]
theorem zJ{t:TypeId}(hx:dh D m x)(h:aau T t i x=some v)(w:World):(Instr.indexAt t (aj m x) (.int k i)).run P w=.ok (aj m v) w/\dh D m v:=by
 cases x<;>simp only[aau,reduceCtorEq,ag,aA,ν,aU]at h
 . rename_i id off;obtain⟨⟨n,e⟩,ha,hi,sz,hs,rfl⟩:=h;have hd:D id:=(hx (id,0) (by simp[aC])).1;refine⟨?_,λj hj=>by grind [aC]⟩;have hi':i<n:=hi;simp[Instr.indexAt,asIntOf,a_ hT (B7 ha) w,aj,Instr.sureAddr,lC hT hs w,hJ,Nat.add_assoc,hi']
 . rename_i id off len c;obtain⟨e,ha,hi,sz,hs,rfl⟩:=h;have hd:D id:=(hx (id,rI len c) (by simp[aC])).1;refine⟨?_,λj hj=>by grind [aC]⟩;simp[Instr.indexAt,asIntOf,a_ hT (pA ha) w,aj,lC hT hs w,hJ,Nat.add_assoc,hi]
theorem IP{t:TypeId}(hx:dh D m x)(h:yk T t i x=some v)(w:World):(Instr.index t (aj m x) (.int k i)).run P w=.ok (aj m v) w/\dh D m v:=by
 cases x<;>simp only[yk,reduceCtorEq,ag,aA,ν,aU]at h
 . rename_i s;obtain⟨ht,b,hb,rfl⟩:=h;refine⟨?_,ek κ⟩;have hlt:=(List.getElem?_eq_some_iff.1 hb).1;have hs:(ByteArray.mk ⟨s⟩)[i]? = some b:=by
    rw[ByteArray.getElem?_lt' _ _ (by exact hlt)];exact congrArg some (List.getElem?_eq_some_iff.1 hb).2
   simp[Instr.index,asIntOf,a_ hT (wT ht) w,aj,jx,hs]
 . rename_i cs;obtain⟨⟨n,e⟩,ha,hi,sz,hs,h⟩:=h;refine⟨?_,CX hT h (aak.1 hx)⟩;try simp only at hi h hs
   simp[Instr.index,asIntOf,a_ hT (B7 ha) w,aj,lC hT hs w,hi,kj hT h w]
end
def gO(P:Program)(cfg:cL)(C:bg)(D:Nat->Prop)(m:Nat->bv)(o:aB)(w:World)(s:Sem Next)(r:AV×aB):Prop:=
 ∃D' m' w' nx,s.run P w=.ok nx w'/\(nx=.value (aj m' r.1)\/nx=.skip/\r.1=bt)/\dh D' m' r.1/\dw cfg C D m o w D' m' r.2 w'
theorem gO.a0{cfg:cL}{o:aB}{s:Sem Next}(hi:dX cfg D m C o w)(ho:r.2=o)(h:s.run P w=.ok (.value (aj m r.1)) w)(hv:dh D m r.1):gO P cfg C D m o w s r:=
 ⟨D,m,w,_,h,.inl rfl,hv,by grind [dw.h0]⟩
def mE(D:Nat->Prop)(m:Nat->bv)(ρ:Operand->Option AV)(ev:Operand->Value):Prop:=∀x v,ρ x=some v->ev x=aj m v/\dh D m v
theorem vG{D:Nat->Prop}{m:Nat->bv}{ρ:Operand->Option AV}{ev:Operand->Value}(hρ:mE D m ρ ev):∀{xs:List Operand} {vs:List AV},gz ρ xs=some vs->xs.map ev=aD m vs/\fM D m vs
 | [],vs,h=>by cases h;grind [aD,fQ]
 | x::xs,vs,h=>by
   simp only[gz,ag,ν]at h;obtain⟨v,hv,vs',hvs,rfl⟩:=h;obtain⟨h1,h2⟩:=hρ x v hv;obtain⟨h3,h4⟩:=vG hρ hvs;grind [aD,fE]
theorem ku{ρ:Operand->Option AV}{ev:Operand->Value}(hρ:mE D m ρ ev){xs:Array Operand}(h:gz ρ xs.toList=some vs):xs.map ev=(aD m vs).toArray/\fM D m vs:=by
 obtain⟨h1,h2⟩:=vG hρ h;grind
theorem VT{D:Nat->Prop}{m:Nat->bv}{ρ:Operand->Option AV}{ev:Operand->Value}(hρ:mE D m ρ ev):∀{xs:List (Nat×Operand)} {ps:List (Nat×AV)},oA ρ xs=some ps->xs.map (λp=>(p.1,ev p.2))=ps.map (λp=>(p.1,aj m p.2))/\∀p∈ps,dh D m p.2
 | [],ps,h=>by cases h;simp
 | x::xs,ps,h=>by
   simp only[oA,ag,ν]at h;obtain⟨v,hv,ps',hps,rfl⟩:=h;obtain⟨h1,h2⟩:=hρ _ v hv;obtain⟨h3,h4⟩:=VT hρ hps;grind
theorem tc{ρ:Operand->Option AV}{ev:Operand->Value}(hρ:mE D m ρ ev){x:Option Operand}{v:Option AV}(h:adk ρ x=some v):x.map ev=v.map (aj m):=by
 cases x with
 | none=>cases h;rfl
 | some x=>
   simp only[adk,ag,ν]at h;obtain⟨u,hu,rfl⟩:=h;simp[(hρ x u hu).1]
theorem abW(h:aC v=[]):fM D m (bU v):=pL (ek h)
section
variable{P:Program}{T:fm}(hT:fH P T){cfg:cL}{C:bg}{D:Nat->Prop}{m:Nat->bv}{o:aB}{w:World}(hi:dX cfg D m C o w){ρ:Operand->Option AV}{ev:Operand->Value}(hρ:mE D m ρ ev)
include hT hi hρ
theorem xj:∀{fs:List Field} {pl:List (Nat×Nat)},wQ T fs=some pl->∀w,(fs.mapM (λf=>(do pure (f.offset,<-sizeOf f.type):Sem (Nat×Nat)))).run P w=.ok pl w
 | [],pl,h,w=>by cases h;simp
 | f::fs,pl,h,w=>by
   simp only[wQ,ag,ν]at h;obtain⟨n,hn,r,hr,rfl⟩:=h;simp only[List.mapM_cons,Sem.run_bind,lC hT hn w,Result.andThen_ok,Sem.run_pure,xj hr w]
theorem Li{t:TypeId}{parts:Array (Nat×Operand)}(h:Z4 T ρ t parts.toList=some v):(Instr.build t (parts.map λ(i,x)=>(i,ev x))).run P w=.ok (aj m v) w/\dh D m v:=by
 simp only[Z4,ag]at h;obtain⟨z,hz,ps,hps,h⟩:=h;obtain⟨hzr,hz0⟩:=mc hT (m:=m) hz w;obtain⟨hp1,hp2⟩:=VT hρ hps;have hparts:(parts.map λ(x:Nat×Operand)=>(x.1,ev x.2)).toList=ps.map λp=>(p.1,aj m p.2):=by simp_all
 cases hu:T.a0 t with
 | none=>simp[hu,Fz]at h
 | some d=>
   cases d<;>simp only[hu,Fz,reduceCtorEq,ag,ν]at h
   . rename_i n elem;obtain⟨sz,hsz,cs,hcs,rfl⟩:=h;refine⟨?_,aak.2 (rZ hcs (abW hz0) hp2)⟩;have hf:=abr (m:=m) hcs;simp only[Instr.build,Sem.run_bind,hzr,Result.andThen_ok,a_ hT hu w,lC hT hsz w,fV,hparts,hf,Sem.run_pure,aj]
   . rename_i fields;obtain⟨pl,hpl,cs,hcs,rfl⟩:=h;refine⟨?_,aak.2 (rZ hcs (abW hz0) hp2)⟩;have hm:(fields.mapM (λf=>(do pure (f.offset,<-sizeOf f.type):Sem (Nat×Nat)))).run P w=.ok pl.toArray w:=by
      rw[Array.mapM_eq_mapM_toList,Sem.run_map,xj hT hi hρ hpl w];rfl
     have hf:=abr (m:=m) hcs;have hp:(λi:Nat=>pl.toArray[i]?)=λi:Nat=>pl[i]? := by simp
     simp only[Instr.build,Sem.run_bind,hzr,Result.andThen_ok,a_ hT hu w,fV,hparts,hm,hp,hf,Sem.run_pure,aj]
abbrev vy(P:Program)(cfg:cL)(C:bg)(D:Nat->Prop)(m:Nat->bv)(o:aB)(w:World)(ev:Operand->Value)(oo:Oper)(r:AV×aB):Prop:=gO P cfg C D m o w (execOp ev oo) r
omit hT in
theorem F_{oo:Oper}{x:Operand}(ho:oo.op=.move x\/oo.op=.assign x)(h:th x T C ρ o=some r):vy P cfg C D m o w ev oo r:=by
 simp only[th,bK]at h;obtain⟨h1,h2⟩:=hρ x _ h.1;exact gO.a0 hi h.2 (by rcases ho with ho|ho<;>simp[execOp,ho,h1]) h2
omit hT in
theorem OL{oo:Oper}{c a b:Operand}(ho:oo.op=.pick c a b)(h:xT c a b T C ρ o=some r):vy P cfg C D m o w ev oo r:=by
 simp only[xT,bK,ag]at h;obtain⟨⟨cv,hc,h⟩,h2⟩:=h;have h3:=(hρ c _ hc).1;cases cv<;>simp only[Gd,reduceCtorEq]at h;rename_i b';cases b'<;>simp only[Gd]at h
 . obtain⟨h4,h5⟩:=hρ b _ h;simp_all [gO.a0,execOp,aj,asBool]
 . obtain⟨h4,h5⟩:=hρ a _ h;simp_all [gO.a0,execOp,aj,asBool]
theorem KO{oo:Oper}{t:TypeId}{parts:Array (Nat×Operand)}(ho:oo.op=.build t parts)(h:ww t parts T C ρ o=some r):vy P cfg C D m o w ev oo r:=by
 grind [ww,bK,Li,gO.a0,execOp,Sem.run_bind,Result.andThen_ok,Sem.run_pure]
theorem Ov{oo:Oper}{t:TypeId}{a:Operand}(ho:oo.op=.load t a)(h:tN t a T C ρ o=some r):vy P cfg C D m o w ev oo r:=by
 simp only[tN,bK,ag]at h;obtain⟨⟨p,hp,h⟩,h2⟩:=h;obtain⟨h3,h4⟩:=hρ a _ hp;grind [AB,gO.a0,execOp,Sem.run_bind,Instr.loadAt,Instr.sureAddr,Sem.run_pure,Result.andThen_ok]
omit hT in
theorem C8{oo:Oper}{x:Operand}(ho:oo.op=.nilCheck x)(h:mW x T C ρ o=some r):vy P cfg C D m o w ev oo r:=by
 simp only[mW,bK,ag]at h;obtain⟨⟨p,hp,h⟩,h2⟩:=h;obtain⟨h3,h4⟩:=hρ x _ hp;cases p<;>simp only[z_,reduceCtorEq,ν]at h<;>grind [gO.a0,aj,execOp,Sem.run_pure]
theorem Q7{oo:Oper}{t yt:TypeId}{x y:Operand}(ho:oo.op=.binOp op t x y yt)(h:DX op t x y T C ρ o=some r):vy P cfg C D m o w ev oo r:=by
 simp only[DX,bK,ag]at h;obtain⟨⟨a,ha,b,hb,h⟩,h2⟩:=h;obtain⟨h3,_⟩:=hρ x _ ha;obtain⟨h4,_⟩:=hρ y _ hb;obtain⟨h5,h6⟩:=JE hT (m:=m) h w;exact gO.a0 hi h2 (by simp only[execOp,ho,h3,h4];rw[Sem.run_bind,h5];rfl) (ek h6)
omit hT in
theorem VB{oo:Oper}{op:UnOp}{t:TypeId}{x:Operand}(ho:oo.op=.unOp op t x)(h:Kp op x T C ρ o=some r):vy P cfg C D m o w ev oo r:=by
 simp only[Kp,bK,ag]at h;obtain⟨⟨a,ha,h⟩,h2⟩:=h;obtain⟨h3,_⟩:=hρ x _ ha;grind [O6,gO.a0,execOp,Sem.run_bind,Result.andThen_ok,Sem.run_pure,ek]
theorem Kk{oo:Oper}{t:TypeId}{x:Operand}(ho:oo.op=.makeInterface t x)(h:wz t x T C ρ o=some r):vy P cfg C D m o w ev oo r:=by
 simp only[wz,bK,ag,xA]at h;obtain⟨⟨v,hv,h⟩,h2⟩:=h;obtain⟨h3,h4⟩:=hρ x _ hv;split at h<;>simp only[reduceCtorEq,ν]at h;rename_i d hne hu;refine gO.a0 hi h2 ?_ (by rw[<-h];exact h4);rw[<-h];simp only[execOp,ho,h3,Instr.makeInterface,Sem.run_bind,a_ hT hu w,Result.andThen_ok,aj];rfl
omit hT in
theorem OX{oo:Oper}{fn:Fn}{first captured:Array Operand}(ho:oo.op=.makeFunc fn first captured)(h:Ca fn first captured T C ρ o=some r):vy P cfg C D m o w ev oo r:=by
 simp only[Ca,bK]at h;obtain⟨h,h2⟩:=h;cases fn<;>simp only[tT,reduceCtorEq,ag,ν]at h;obtain⟨a,ha,b,hb,h⟩:=h;obtain⟨h3,h4⟩:=ku hρ ha;obtain⟨h5,h6⟩:=ku hρ hb;refine gO.a0 hi h2 ?_ ?_
 . rw[<-h];simp_all [execOp,Instr.makeFunc,aj]
 . rw[<-h];intro i hm;simp only[aC,List.mem_append]at hm;rcases hm with hm|hm
   . exact h4 i hm
   . exact h6 i hm
theorem K_{oo:Oper}{t:TypeId}{x:Operand}{lo hi' mx:Option Operand}(ho:oo.op=.slice t x lo hi' mx)(h:sg t x lo hi' mx T C ρ o=some r):vy P cfg C D m o w ev oo r:=by
 simp only[sg,bK,ag]at h;obtain⟨⟨v,hv,l,hl,hh,hhh,mm,hmm,h⟩,h2⟩:=h;obtain⟨h3,h4⟩:=hρ x _ hv;obtain⟨h5,h6⟩:=CM hT h4 h w;grind [gO.a0,execOp,tc,Sem.run_bind,Result.andThen_ok,Sem.run_pure]
theorem BQ{oo:Oper}{s:TypeId}{x:Operand}(ho:oo.op=.fieldAddr s x f)(h:aaC s x f T C ρ o=some r):vy P cfg C D m o w ev oo r:=by
 simp only[aaC,bK,ag]at h;obtain⟨⟨v,hv,h⟩,h2⟩:=h;obtain⟨h3,h4⟩:=hρ x _ hv;grind [zP,gO.a0,execOp,Sem.run_bind,Result.andThen_ok,Sem.run_pure]
theorem Mo{oo:Oper}{s:TypeId}{x:Operand}(ho:oo.op=.field s x f)(h:wB s x f T C ρ o=some r):vy P cfg C D m o w ev oo r:=by
 simp only[wB,bK,ag]at h;obtain⟨⟨v,hv,h⟩,h2⟩:=h;obtain⟨h3,h4⟩:=hρ x _ hv;grind [HJ,gO.a0,execOp,Sem.run_bind,Result.andThen_ok,Sem.run_pure]
omit hT hi hρ in
theorem AU(h:HG v=some n):∃k,v=.a k (.ofNat n):=by
 unfold HG at h;split at h<;>simp_all
theorem Ba{oo:Oper}{t:TypeId}{x ix:Operand}(ho:oo.op=.indexAddr t x ix)(h:jq t x ix T C ρ o=some r):vy P cfg C D m o w ev oo r:=by
 simp only[jq,bK,ag]at h;obtain⟨⟨v,hv,i,hix,n,hn,h⟩,h2⟩:=h;obtain⟨k,rfl⟩:=AU hn;obtain⟨h3,h4⟩:=hρ x _ hv;obtain⟨h7,_⟩:=hρ ix _ hix;grind [zJ,gO.a0,execOp,aj,Sem.run_bind,Result.andThen_ok,Sem.run_pure]
theorem LK{oo:Oper}{t:TypeId}{x ix:Operand}(ho:oo.op=.index t x ix)(h:rz t x ix T C ρ o=some r):vy P cfg C D m o w ev oo r:=by
 simp only[rz,bK,ag]at h;obtain⟨⟨v,hv,i,hix,n,hn,h⟩,h2⟩:=h;obtain⟨k,rfl⟩:=AU hn;obtain⟨h3,h4⟩:=hρ x _ hv;obtain⟨h7,_⟩:=hρ ix _ hix;grind [IP,gO.a0,execOp,aj,Sem.run_bind,Result.andThen_ok,Sem.run_pure]
omit hT in
theorem E0{oo:Oper}{t:Operand}(ho:oo.op=.extract t i)(h:pG t i T C ρ o=some r):vy P cfg C D m o w ev oo r:=by
 simp only[pG,bK,ag]at h;obtain⟨⟨v,hv,h⟩,h2⟩:=h;obtain⟨h3,h4⟩:=hρ t _ hv;cases v<;>simp only[Ei,reduceCtorEq]at h;rename_i vs;refine gO.a0 hi h2 ?_ (df.1 (gh.1 h4) _ (List.mem_of_getElem? h));simp_all [execOp,aj,Instr.extract,gi]
end
end Go.Ev
