import Derived.Laws.StructEq
import Derived.Laws.CopyRow
import Derived.Laws.Slices
import Derived.Test.YtoghlpcacfnjbaaGreatDoorP04
set_option linter.all false
set_option maxRecDepth 100000
set_option maxHeartbeats 4000000
namespace Go.Ev
open Go Go.RowKit
variable{D:Nat->Prop}{m:Nat->bv}{k:IntKind}{b:Bool}{n off id mm h t:Nat}{x y:AV}{op:BinOp}{xo yo:Operand}{cs vs:List AV}{C:bg}{o o':aB}{T:fm}
theorem iv{a b:IntKind}:gP a b=true↔a=b:=by
 rw[gP,cQ];cases a<;>cases b<;>simp[lm]
theorem oU{a b:Int}:ab a b=true↔a<=b:=by
 cases a<;>cases b<;>simp only[ab]
 . simp_all
 . grind
 . grind
 . simp only[bx,Int.negSucc_eq];omega
theorem o7{a b:Int}:aa a b=true↔a=b:=by
 cases a<;>cases b<;>simp only[aa]
 . rw[cQ];exact Int.ofNat_inj.symm
 . simp
 . simp
 . simp_all
theorem vA(a b:Int):aa a b=(a==b):=by
 rw[Bool.eq_iff_iff,o7,beq_iff_eq]
theorem ek(a b:Int):ab a b=decide (a<=b):=by
 rw[Bool.eq_iff_iff,oU,decide_eq_true_iff]
theorem lk(k:IntKind)(n:Int):IV k n=.a k n:=by
 cases n with
 | ofNat n=>cases n<;>rfl
 | negSucc n=>cases n<;>rfl
theorem gE(n:Nat):goInt n=.a .i64 n:=by cases n<;>rfl
theorem GP(k:IntKind)(n:Nat):H0 k .ofNat n=.a k n:=by cases n<;>rfl
theorem Bx(k:IntKind)(n:Int)(h1:eH k<=n)(h2:n<=eE k):k.wrap n=n:=by
 cases k<;>simp only[eH,eE]at h1 h2<;>simp[IntKind.wrap,IntKind.bits,IntKind.signed]<;>omega
theorem Lf(k:IntKind)(n:Int):DD k n=k.wrap n:=by
 unfold DD;cases h:ab (eH k) n&&ab n (eE k)with
 | true=>
   rw[Bool.and_eq_true,oU,oU]at h;exact(Bx k n h.1 h.2).symm
 | false=>rfl
theorem sP(k:IntKind)(n:Int):iU k n=some (.a k (k.wrap n)):=by rw[iU,lk,Lf]
theorem wJ{n:Int}:dh D m (.a k n):=λi hi=>by simp[aC]at hi
theorem sj:dh D m (.b b):=λi hi=>by simp[aC]at hi
theorem nc(a b:Bool):bQ a b=(a==b):=by cases a<;>cases b<;>rfl
theorem bV:∀a b:List UInt8,ae a b=(a==b)
 | [],[]=>rfl
 | [],_::_=>rfl
 | _::_,[]=>rfl
 | a::x,b::y=>by
   rw[ae,bV x y,List.cons_beq_cons];congr 1
   rw[Bool.eq_iff_iff,cQ,beq_iff_eq];exact UInt8.toNat_inj
theorem xP:∀a b:List UInt8,rF a b=Op.bytesLess a b
 | [],[]=>rfl
 | [],_::_=>rfl
 | _::_,[]=>rfl
 | a::x,b::y=>by
   rw[rF,xP x y,Op.bytesLess];have e1:aS a.toNat b.toNat=decide (a<b):=by rw[Bool.eq_iff_iff,aU,decide_eq_true_iff];exact Iff.rfl
   have e2:Nat.beq a.toNat b.toNat=(a==b):=by rw[Bool.eq_iff_iff,cQ,beq_iff_eq];exact UInt8.toNat_inj
   rw[e1,e2]
theorem ny(s:List UInt8):(ByteArray.mk ⟨s⟩).toList=s:=ByteArray.toList_mk s
section
variable{P:Program}{T:fm}(hT:fH P T)
include hT
theorem qr{n:Nat}{m:Nat->bv}(cmp:TypeId->AV->AV->Option Bool)(hc:∀t x y b,cmp t x y=some b->∀w,(Op.equalIn n t (aj m x) (aj m y)).run P w=.ok b w)(xs ys:List AV) :
 ∀(fs:List Field) (b:Bool),jd T cmp xs ys fs=some b->∀w,(Op.eqFields n (ap m xs).toArray (ap m ys).toArray fs).run P w=.ok b w
 | [],b,h,w=>by cases h;simp[Op.eqFields]
 | f::fs,b,h,w=>by
   simp only[jd,aA,ag,Bool.not_eq_true']at h;obtain⟨h1,x,hx,y,hy,r,hr,h⟩:=h;have hne:f.name ≠ "_" := by simpa using h1
   simp only[Op.eqFields,if_pos hne,Sem.run_bind,kj hT hx w,kj hT hy w,Result.andThen_ok,hc _ _ _ _ hr w];cases r with
   | true=>
     simp only[cond_true]at h;simpa using qr cmp hc xs ys fs b h w
   | false=>
     simp_all
theorem rN{n sz:Nat}{m:Nat->bv}(elem:TypeId)(cmp:AV->AV->Option Bool)(hc:∀x y b,cmp x y=some b->∀w,(Op.equalIn n elem (aj m x) (aj m y)).run P w=.ok b w)(xs ys:List AV) :
 ∀(len i:Nat) (b:Bool),kO T cmp elem sz xs ys i len=some b->∀w,
  (forIn (List.range' i len) ((none,()):Option Bool×PUnit) (λj _=>do
    let a <-part elem (ap m xs).toArray (j*sz)
    let c <-part elem (ap m ys).toArray (j*sz)
    let r <-Op.equalIn n elem a c
    if(!r)=true then pure (ForInStep.done (some false,()))else pure (ForInStep.yield (none,())):Nat->Option Bool×PUnit->Sem (ForInStep (Option Bool×PUnit)))).run P w =
  .ok (if b then none else some false,()) w
 | 0,i,b,h,w=>by cases h;simp
 | len+1,i,b,h,w=>by
   simp only[kO,ag]at h;obtain⟨x,hx,y,hy,r,hr,h⟩:=h;simp only[List.range'_succ,List.forIn_cons,Sem.run_bind,kj hT hx w,kj hT hy w,Result.andThen_ok,hc _ _ _ hr w];cases r with
   | true=>
     simp only[cond_true]at h;simpa using rN elem cmp hc xs ys len (i+1) b h w
   | false=>
     simp_all
theorem C5{len sz:Nat}{t elem:TypeId}(ht:T.a0 t=some (.array len elem))(hs:gT T elem=some sz)(cmp:AV->AV->Option Bool)(hc:∀x y b,cmp x y=some b->∀w,(Op.equalIn n elem (aj m x) (aj m y)).run P w=.ok b w)
 (xs ys:List AV) (b:Bool) (h:kO T cmp elem sz xs ys 0 len=some b) (w:World):(Op.equalIn (n+1) t (.agg (ap m xs).toArray) (.agg (ap m ys).toArray)).run P w=.ok b w:=by
 simp only[Op.equalIn,Sem.run_bind,a_ hT ht w,Result.andThen_ok,ep hT hs w];have:=rN hT elem cmp hc xs ys len 0 b h w;rw[Std.Legacy.Range.forIn_eq_forIn_range'];simp only[Std.Legacy.Range.size,Nat.sub_zero,Nat.add_sub_cancel,Nat.div_one];rw[this];cases b<;>simp
theorem BA{t:TypeId}{fs:Array Field}(ht:T.a0 t=some (.struct fs))(hs:P.stoodInHeld t=false)(cmp:TypeId->AV->AV->Option Bool)(hc:∀t x y b,cmp t x y=some b->∀w,(Op.equalIn n t (aj m x) (aj m y)).run P w=.ok b w)
 (xs ys:List AV) (b:Bool) (h:jd T cmp xs ys fs.toList=some b) (w:World):(Op.equalIn (n+1) t (.agg (ap m xs).toArray) (.agg (ap m ys).toArray)).run P w=.ok b w:=by
 have hu:=jp hT ht;have hf:P.fieldsOf t=fs:=by simp[Program.fieldsOf,hu]
 rw[run_equalIn_struct w n t _ _ (by rw[hf];exact hu) hs,hf];exact qr hT cmp hc xs ys fs.toList b h w
theorem Ay{t:TypeId}(h:DG (T.a0 t) x y=some b)(w:World):(Op.equalIn (n+1) t (aj m x) (aj m y)).run P w=.ok b w:=by
 simp only[DG,aA,Option.some.injEq,Bool.and_eq_true,cQ]at h;obtain⟨⟨⟨h1,h2⟩,h3⟩,rfl⟩:=h;cases hd:T.a0 t with
 | none=>rw[hd]at h1 h2;cases x<;>simp[Ef,GL]at h1
 | some d=>
   rw[hd]at h1 h2;have hr:=a_ hT hd w;cases d<;>simp only[GL]at h1 h2<;>cases x<;>simp only[Ef]at h1<;>(first|(exfalso;revert h1;decide)|skip)<;>
    cases y<;>simp only[Ef]at h2<;>(first|(exfalso;revert h2;decide)|skip)<;>(first|(simp[tJ]at h3;done)|simp[Op.equalIn,hr,aj,tJ])
theorem OT(cmp:TypeId->AV->AV->Option Bool)(hc:∀t x y b,cmp t x y=some b->∀w,(Op.equalIn n t (aj m x) (aj m y)).run P w=.ok b w)(t:TypeId)(x y:AV)(b:Bool)
 (h:MY T cmp t x y=some b) (w:World):(Op.equalIn (n+1) t (aj m x) (aj m y)).run P w=.ok b w:=by
 cases x with
 | b a=>
   cases y<;>simp only[MY,Cb,aA,Option.some.injEq,reduceCtorEq]at h;obtain⟨h1,rfl⟩:=h;cases hd:T.a0 t with
   | none=>simp[hd,Kf]at h1
   | some d=>cases d<;>simp[hd,Kf]at h1;simp[Op.equalIn,a_ hT hd w,aj,nc]
 | a k a=>
   cases y<;>simp only[MY,FH,aA,Option.some.injEq,reduceCtorEq,Bool.and_eq_true,iv]at h;obtain⟨⟨h1,rfl⟩,rfl⟩:=h;cases hd:T.a0 t with
   | none=>simp[SK,hd,Qx]at h1
   | some d=>cases d<;>simp[SK,hd,Qx]at h1;simp[Op.equalIn,a_ hT hd w,aj,vA]
 | d a=>
   cases y<;>simp only[MY,Ex,aA,Option.some.injEq,reduceCtorEq]at h;obtain⟨h1,rfl⟩:=h;cases hd:T.a0 t with
   | none=>simp[zO,hd,zF]at h1
   | some d=>
     cases d<;>simp[zO,hd,zF]at h1;simp only[Op.equalIn,Sem.run_bind,a_ hT hd w,aj,bV,Result.andThen_ok,beq_toListBytes,ny,Sem.run_pure]
 | h xs=>
   cases y<;>simp only[MY,EI,reduceCtorEq]at h;rename_i ys;cases hd:T.a0 t with
   | none=>simp[hd,BV]at h
   | some d=>
     cases d<;>simp only[hd,BV,reduceCtorEq,ag]at h
     . obtain⟨sz,hs,h⟩:=h;simp only[aj];exact C5 hT hd hs _ (λx y b h w=>hc _ x y b h w) xs ys b h w
     . rename_i fields;obtain⟨e,he,h⟩:=h;simp only[aA,Bool.not_eq_true']at h;have hst:=(hT.ty t e he).2.2.2;have heu:e.u=.struct fields:=by
        have:=hd;simp only[fm.a0,he,ob,Option.some.injEq]at this;exact this
       simp only[aj];exact BA hT hd (by rw[hst (by rw[heu];rfl)];exact h.1) cmp hc xs ys b h.2 w
 | k a u=>
   cases y with
   | k c v=>
     simp only[MY,nZ,aA]at h;obtain⟨h1,h⟩:=h;cases hd:T.a0 t with
     | none=>simp[hd,EM]at h1
     | some d=>
       cases d<;>simp[hd,EM]at h1;by_cases e:a=c
       . subst e;rw[gm rfl,cond_true]at h;simp only[ag,aA]at h;obtain⟨i,hi,hcm,h⟩:=h;simp[Op.equalIn,a_ hT hd w,aj,pg hT hi w,hcm,hc _ _ _ _ h w]
       . rw[ic e,cond_false,Option.some.injEq]at h;subst h;simp[Op.equalIn,a_ hT hd w,aj,e]
   | _=>exact Ay hT (by simpa only[MY,nZ]using h) w
 | _=>exact Ay hT (by simpa only[MY]using h) w
theorem Bp{m:Nat->bv}:∀(d:Nat) (t:TypeId) (x y:AV) (b:Bool),N5 T d t x y=some b->∀n,d<=n->∀w,(Op.equalIn n t (aj m x) (aj m y)).run P w=.ok b w
 | 0,_,_,_,_,h,_,_,_=>by cases h
 | d+1,t,x,y,b,h,n,hn,w=>by
   obtain⟨n,rfl⟩:∃k,n=k+1:=⟨n-1,by omega⟩;exact OT hT (N5 T d) (λt x y b h w=>Bp d t x y b h n (by omega) w) t x y b h w
end
section
variable{P:Program}{T:fm}(hT:fH P T)
theorem ltd(a b:Int):decide (a<b)=!decide (b<=a):=by rw[<-decide_not,decide_eq_decide];omega
theorem MU{t:TypeId}{a:Int}{v:AV}(h:KF op k a y=some v)(w:World) :
 (binOp op t (.int k a) (aj m y)).run P w=.ok (aj m v) w/\aC v=[]:=by
 cases y<;>simp only[KF,reduceCtorEq]at h;rename_i k' b;cases hs:pI op with
 | true=>
   simp only[hs,cond_true,Fw,aA,oU]at h;obtain⟨h0,h⟩:=h;have hb:¬b<0:=by omega
   cases op<;>simp[pI]at hs
   . simp only[sP,Option.some.injEq]at h;subst h;simp[aj,binOp,Op.shift,hb,Cf,aC]
   . simp only[lk,Option.some.injEq]at h;subst h;simp[aj,binOp,Op.shift,hb,Cf,aC]
 | false=>
   simp only[hs,cond_false,aA,iv]at h;obtain⟨rfl,h⟩:=h;cases op<;>simp[pI]at hs;all_goals simp only[Ck,VC,Wp,Xu,Q5,Ti,Uj,bOr,Nn,Hf,Tp,QZ,Qq,Qr,QY,Q_,Ee,sP,lk,aA,Option.some.injEq,Bool.not_eq_true',vA,ek,reduceCtorEq]at h
   all_goals first
    | (obtain⟨h0,h⟩:=h;subst h;have h0':¬b=0:=by simpa using h0
       simp[aj,binOp,Op.intDiv,h0',aC];done)
    | (subst h;simp[aj,binOp,Op.intArith,Op.intBits,Op.intCmp,aC];done)
    | (subst h;simp[aj,binOp,Op.intArith,Op.intBits,Op.intCmp,aC];rfl)
    | (subst h;simp[aj,binOp,Op.intCmp,aC];exact ltd _ _)
theorem JO{t:TypeId}{a:List UInt8}{v:AV}(h:Jg op a y=some v)(w:World) :
 (binOp op t (.string ⟨⟨a⟩⟩) (aj m y)).run P w=.ok (aj m v) w/\aC v=[]:=by
 cases y<;>simp only[Jg,reduceCtorEq]at h;rename_i b;cases op<;>simp only[Ra,aA,Option.some.injEq,reduceCtorEq,bx]at h
 case add=>
  obtain⟨hl,rfl⟩:=h;have hn:¬(((ByteArray.mk ⟨a⟩).size+(ByteArray.mk ⟨b⟩).size:Nat):Int) > IntKind.i64.max:=by
   simp only[ByteArray.size,List.size_toArray,IntKind.max,IntKind.bits,IntKind.signed,if_true];omega
  refine⟨?_,by simp[aC]⟩;simp only[aj,binOp,Op.stringOp];rw[if_neg hn];have:(ByteArray.mk ⟨a⟩)++(ByteArray.mk ⟨b⟩)=ByteArray.mk ⟨a++b⟩:=by
   apply ByteArray.ext;rw[ByteArray.data_append];simp
  simp[this]
 all_goals
  subst h;refine⟨?_,by simp[aC]⟩;simp only[aj,binOp,Op.stringOp,ny,bV,xP];simp
theorem pK{T:fm}{t:TypeId}(h:jK T t xo yo x y):ot x/\ot y=true:=by
 unfold jK at h;rw[Bool.and_eq_true,Bool.and_eq_true]at h;exact⟨h.1,h.2.1⟩
def xh:AV->Bool
 | .a _ _|.d _|.i _=>false
 | _=>true
theorem FT{t:TypeId}(h:xh x)(hy:ot y):binOp .eql t (aj m x) (aj m y)=(do pure (.bool (<-Op.equal t (aj m x) (aj m y)))):=by
 cases x<;>simp[xh]at h<;>cases y<;>first|rfl|cases hy
theorem EF{t:TypeId}(h:xh x)(hy:ot y):binOp .neq t (aj m x) (aj m y)=(do pure (.bool (!(<-Op.equal t (aj m x) (aj m y))))):=by
 cases x<;>simp[xh]at h<;>cases y<;>first|rfl|cases hy
theorem jy{t:TypeId}{X Y:Value}(h1:¬(X=.nilIface/\Y=.nilIface))(h2:¬(∃a b,X=.agg a/\Y=.agg b))(w:World):(eqGuard op t xo yo X Y).run P w=.ok () w:=by
 unfold eqGuard;cases X<;>cases Y<;>first|(exact absurd ⟨rfl,rfl⟩ h1)|(exact absurd ⟨_,_,rfl,rfl⟩ h2)|(cases op<;>simp)
include hT
theorem Ab{t:TypeId}(h:jK T t xo yo x y)(w:World):(eqGuard op t xo yo (aj m x) (aj m y)).run P w=.ok () w:=by
 obtain⟨hx,hy⟩:=pK h;cases x with
 | i v=>cases hx
 | h xs=>
   cases y with
   | i v=>cases hy
   | h ys=>
     simp only[jK,ot,Bool.true_and]at h;cases he:T.ty.c0 t with
     | none=>simp[he,ob]at h
     | some e=>
       simp only[he,ob,Option.getD_some,Bool.and_eq_true,Bool.not_eq_true']at h;have:=(hT.ty t e he).2.2.1 h.1;simp only[aj];exact run_eqGuard_agg w op t xo yo _ _ (this.trans h.2)
   | _=>exact jy (by simp[aj]) (by simp[aj]) w
 | l=>
   cases y with
   | i v=>cases hy
   | l=>
     simp only[jK,ot,Bool.true_and,Bool.or_eq_true]at h;simp only[aj];rcases h with h|h
     . cases xo<;>simp[rV]at h;cases op<;>simp[eqGuard]
     . cases yo<;>simp[rV]at h;cases xo<;>cases op<;>simp[eqGuard]
   | _=>exact jy (by simp[aj]) (by simp[aj]) w
 | _=>exact jy (by simp[aj]) (by simp[aj]) w
theorem JE{t:TypeId}{v:AV}(h:JC T op t xo yo x y=some v)(w:World) :
 (do eqGuard op t xo yo (aj m x) (aj m y);binOp op t (aj m x) (aj m y):Sem Value).run P w=.ok (aj m v) w/\aC v=[]:=by
 have key:xh x->C3 op (ok (jK T t xo yo x y) (N5 T 100 t x y))=some v->(do eqGuard op t xo yo (aj m x) (aj m y);binOp op t (aj m x) (aj m y):Sem Value).run P w=.ok (aj m v) w/\aC v=[]:=by
  intro hb h;cases op<;>simp only[C3,ag,aA,Option.some.injEq,reduceCtorEq]at h
  . obtain⟨b,⟨hg,he⟩,rfl⟩:=h;refine⟨?_,by simp[aC]⟩;rw[Sem.run_bind,Ab hT hg w,Result.andThen_ok,FT hb (pK hg).2];simp[Op.equal,Op.maxDepth,Bp hT 100 t x y b he 10000 (by omega) w,aj]
  . obtain⟨b,⟨hg,he⟩,rfl⟩:=h;refine⟨?_,by simp[aC]⟩;rw[Sem.run_bind,Ab hT hg w,Result.andThen_ok,EF hb (pK hg).2];simp[Op.equal,Op.maxDepth,Bp hT 100 t x y b he 10000 (by omega) w,aj]
 cases x with
 | a k a=>
   obtain⟨h1,h2⟩:=MU (P:=P) (t:=t) (m:=m) h w;refine⟨?_,h2⟩;rw[Sem.run_bind,jy (by simp[aj]) (by simp[aj]) w];simpa [aj]using h1
 | d a=>
   obtain⟨h1,h2⟩:=JO (P:=P) (t:=t) (m:=m) h w;refine⟨?_,h2⟩;rw[Sem.run_bind,jy (by simp[aj]) (by simp[aj]) w];simpa [aj]using h1
 | i a=>
   exfalso;have hg:jK T t xo yo (.i a) y=false:=by
    cases hg:jK T t xo yo (.i a) y with
    | false=>rfl
    | true=>cases(pK hg).1
   simp only[JC,hg,ok,cond_false]at h;cases op<;>simp[C3,ob]at h
 | _=>exact key rfl h
omit hT in
theorem O6{op:UnOp}{v:AV}(h:UC op x=some v)(w:World):(Op.unary op (aj m x)).run P w=.ok (aj m v) w/\aC v=[]:=by
 cases x<;>simp only[UC,reduceCtorEq]at h
 . cases op<;>simp at h;subst h;simp[aj,Op.unary,aC]
 . cases op<;>simp only[sP,Nn,Option.some.injEq,reduceCtorEq]at h
   . subst h;simp[aj,Op.unary,Op.intArith,aC];exact congrArg _ (Int.zero_sub _).symm
   . subst h;simp[aj,Op.unary,Op.intBits,aC]
end
theorem yD:∀{cs vs r:List AV},qh cs vs=some r->r=vs++cs.drop vs.length/\vs.length<=cs.length
 | cs,[],r,h=>by cases cs<;>(simp only[qh,Option.some.injEq]at h;subst h;simp)
 | [],_::_,r,h=>by cases h
 | c::cs,v::vs,r,h=>by
   simp only[qh,ag,Option.some.injEq]at h;obtain⟨r',hr,rfl⟩:=h;obtain⟨rfl,hl⟩:=yD hr;simp;exact hl
theorem ji:∀{cs:List AV} {off:Nat} {vs r:List AV},tU cs off vs=some r->r=cs.take off++vs++cs.drop (off+vs.length)/\off+vs.length<=cs.length
 | cs,0,vs,r,h=>by
   have h':qh cs vs=some r:=by cases cs<;>exact h
   obtain⟨rfl,hl⟩:=yD h';simp;exact hl
 | [],n+1,vs,r,h=>by cases h
 | c::cs,n+1,vs,r,h=>by
   simp only[tU,ag,Option.some.injEq]at h;obtain⟨r',hr,rfl⟩:=h;obtain⟨rfl,hl⟩:=ji hr;rw[show n+1+vs.length=(n+vs.length)+1 by omega];simp;omega
theorem HW{r:List AV}(h:tU cs off vs=some r):ap m r=(ap m cs).take off++ap m vs++(ap m cs).drop (off+(ap m vs).length):=by
 obtain⟨rfl,_⟩:=ji h;simp[d_]
theorem Gq{r:List AV}(h:tU cs off vs=some r)(hc:fM D m cs)(hv:fM D m vs):fM D m r:=by
 obtain⟨rfl,_⟩:=ji h;rw[df]at hc hv ⊢;intro v hm;simp only[List.mem_append]at hm;rcases hm with(hm|hm)|hm
 . grind
 . grind
 . grind
theorem J9{r:List AV}(h:tU cs off vs=some r)(i:Nat):r[i]? = if off<=i/\i<off+vs.length then vs[i-off]? else cs[i]? := by
 obtain⟨rfl,hl⟩:=ji h;rw[List.append_assoc,List.getElem?_append,List.length_take,Nat.min_eq_left (by omega)];by_cases h1:i<off
 . grind
 . grind
theorem Ek:∀(vs:List Value) (j off:Nat) (A:Array Value),off+j+vs.length<=A.size->
 ((vs.zipIdx j).foldl (λcs p=>cs.setIfInBounds (off+p.2) p.1) A).toList=A.toList.take (off+j)++vs++A.toList.drop (off+j+vs.length)
 | [],j,off,A,h=>by simp
 | v::vs,j,off,A,h=>by
   simp only[List.length_cons]at h;rw[List.zipIdx_cons,List.foldl_cons,Ek vs (j+1) off _ (by simp;omega)];have e:=list_seg_step A.toList (off+j) v vs (by simp;omega);simpa [Array.toList_setIfInBounds,Nat.add_assoc]using e
theorem oT{m:Nat->bv}{place:Nat->Option (Nat×Nat)}:∀{ps:List (Nat×AV)} {cells r:List AV},vF place cells ps=some r->
 Instr.fill place (ap m cells).toArray (ps.map λp=>(p.1,aj m p.2))=some (ap m r).toArray
 | [],cells,r,h=>by cases h;simp[Instr.fill]
 | p::ps,cells,r,h=>by
   simp only[vF,ag,aA,cQ]at h;obtain⟨q,hq,hl,r',hr,h⟩:=h;have hlen:=(ji hr).2;simp only[List.map_cons,Instr.fill,hq,fV];have h1:¬((ap m (bU p.2)).toArray.size≠q.2):=by simp[b7,hl]
   have h2:¬(q.1+(ap m (bU p.2)).toArray.size > (ap m cells).toArray.size):=by simp[b7];omega
   have hf:=Ek (ap m (bU p.2)) 0 q.1 (ap m cells).toArray (by simp[b7];omega);have ih:=oT (m:=m) h;have e:(ap m (bU p.2)).toArray.zipIdx.foldl (λcs (x:Value×Nat)=>cs.setIfInBounds (q.1+x.2) x.1) (ap m cells).toArray=(ap m r').toArray:=by
    apply Array.toList_inj.1;rw[<-Array.foldl_toList,Array.toList_zipIdx,hf,HW hr];simp
   simp only[h1,h2,decide_false,Bool.or_self,Bool.false_eq_true,if_false];rw[<-ih];congr 1
theorem rZ{D:Nat->Prop}{m:Nat->bv}{place:Nat->Option (Nat×Nat)}:∀{ps:List (Nat×AV)} {cells r:List AV},vF place cells ps=some r->fM D m cells->(∀p∈ps,dh D m p.2)->fM D m r
 | [],cells,r,h,hc,_=>by cases h;exact hc
 | p::ps,cells,r,h,hc,hp=>by
   simp only[vF,ag,aA]at h;obtain⟨q,hq,hl,r',hr,h⟩:=h;exact rZ h (Gq hr hc (pL (hp p (by simp)))) (λp hm=>hp p (by simp[hm]))
theorem vK(w:World)(g:Nat)(cs:Array Value):(w.setRow g cs).heap.size=w.heap.size:=by simp[World.setRow]
theorem np{P:Program}{cfg:cL}{w:World}(h:dX cfg D m C o w)(hd:D id)(hv:fM D m vs)(h1:dM vs)(hw:jO C o id off vs=some o') :
 ∃w',(storeCells ⟨(m id).a0,(m id).b0+off,none⟩ (ap m vs) 0).run P w=.ok () w'/\dw cfg C D m o w D m o' w':=by
 simp only[jO,ag,Option.some.injEq]at hw;obtain⟨x,hx,x',hx',rfl⟩:=hw;cases x<;>simp only[yr,reduceCtorEq]at hx';rename_i cs rw g;cases rw<;>simp only[reduceCtorEq,ag,Option.some.injEq]at hx';obtain⟨cs',hl,rfl⟩:=hx';have hob:=h.a0 id hd;rw[fI hx]at hob;obtain⟨c,e,fz,hb,hr⟩:=hob;obtain rfl:=hr.a0 rfl;have hokc:fM D m cs':=Gq hl hr.b0 hv;by_cases hnil:vs=[]
 . subst hnil;have:cs'=cs:=by
    obtain⟨rfl,_⟩:=ji hl;simp
   subst this;refine⟨w,rfl,dw.n0 h hd hx rfl (Nat.le_refl _) (λ_ _=>rfl) ⟨c,e,(0,0),hb,hr⟩ rfl rfl rfl⟩
 . have hlen:=(ji hl).2;have hpos:0<vs.length:=List.length_pos_iff.2 hnil;have hfit:(m id).b0+off+vs.length<=c.size:=by
    have hi:off+vs.length-1<cs.length:=by omega
    have:=hr.c0 (off+vs.length-1) _ (List.getElem?_eq_getElem hi);have:=(Array.getElem?_eq_some_iff.1 this).1;omega
   have hst:=run_storeCells_at P (m id).a0 ((m id).b0+off) e (ap m vs) 0 c w hb (by rw[b7];omega) (λv hvm=>by
    rw[d_]at hvm;obtain⟨u,hu,rfl⟩:=List.mem_map.1 hvm;exact tB (jj.1 h1 u hu))
   refine⟨_,hst,dw.n0 h hd hx rfl (Nat.le_of_eq (vK _ _ _).symm) (λk hk=>setRow_other _ _ _ _ hk) ?_ rfl rfl rfl⟩;refine⟨_,e,(0,0),setRow_heap w _ c _ e _ hb,⟨λi v hi=>?_,hokc,λ_=>rfl,λs hs=>?_⟩⟩
   . rw[J9 hl]at hi;simp only[Nat.add_zero,List.getElem?_toArray];rw[List.append_assoc,List.getElem?_append,List.length_take,Array.length_toList,Nat.min_eq_left (by omega)];by_cases hc1:off<=i/\i<off+vs.length
     . rw[if_pos hc1]at hi;rw[if_neg (by omega),List.getElem?_append,if_pos (by rw[b7];omega),show(m id).b0+i-((m id).b0+off)=i-off by omega,gi,hi];rfl
     . rw[if_neg hc1]at hi;have hci:=hr.c0 i v hi;by_cases hc2:i<off
       . grind
       . rw[if_neg (by omega),List.getElem?_append,if_neg (by rw[b7];omega),List.getElem?_drop,b7,Array.getElem?_toList];rw[<-hci];congr 1;omega
   . obtain⟨a1,a2,a3⟩:=hr.d0 s hs;refine⟨a1,a2,?_⟩;simp only[Nat.add_zero,List.size_toArray,List.length_append,List.length_take,List.length_drop,Array.length_toList,b7];rw[<-a3];omega
section
variable{P:Program}{T:fm}(hT:fH P T)
include hT
theorem ED{cfg:cL}{w:World}(h:dX cfg D m C o w){t:TypeId}{p v:AV}(hp:dh D m p)(hv:dh D m v)(hs:yO T C o t v p=some o') :
 ∃w',(Instr.storeAt t (aj m p) (aj m v)).run P w=.ok () w'/\dw cfg C D m o w D m o' w':=by
 cases p<;>simp only[yO,reduceCtorEq,ag,aA,Bool.and_eq_true,cQ]at hs;rename_i id off;obtain⟨n,hn,⟨hl,h1⟩,hw⟩:=hs;have hd:D id:=(hp (id,0) (by simp[aC])).1;obtain⟨w',hr,he⟩:=np (P:=P) h hd (pL hv) h1 hw;refine⟨w',?_,he⟩;have hsz:(aj m v).cells.size=n:=by rw[fV];simp[b7,hl]
 simp only[Instr.storeAt,aj,Instr.sureAddr,storeVar,Sem.run_bind,Sem.run_pure,Result.andThen_ok,ep hT hn w,hsz];simp only[ne_eq,not_true,if_false,fV,Sem.run_bind];simpa using hr
end
theorem pj{hi:Nat}{v:AV}(h:zR hi v=some n):∃k,v=.a k (.ofNat n)/\n<=hi:=by
 unfold zR at h;split at h
 . simp only[aA,Option.some.injEq,bx]at h;obtain⟨h1,rfl⟩:=h;exact⟨_,rfl,h1⟩
 . cases h
theorem gK{P:Program}{most:Nat}{v:AV}{y:Nat}{code:BoundsCode}(h:zR most v=some n)(hy:most<=y)(w:World):(Instr.sliceBound (aj m v) y code).run P w=.ok n w:=by
 obtain⟨k,rfl,hn⟩:=pj h;simp only[aj];rw[run_sliceBound w k _ y code (by simp) (by simp;omega)];simp
theorem jf{P:Program}{len cap c0 l:Nat}{lo hi mx:Option AV}(hc:mx=none->mm=cap)(hc':∀v,mx=some v->zR c0 v=some mm/\c0<=cap)
 (hm:mx=none\/hi.isSome) (hh:∃t,dT t len hi=some h/\t<=mm) (hl:dT h 0 lo=some l) (w:World) :
 (Instr.sliceBounds b len cap (lo.map (aj m)) (hi.map (aj m)) (mx.map (aj m))).run P w=.ok (l,h,mm) w:=by
 obtain⟨t,hh,ht⟩:=hh;unfold Instr.sliceBounds;cases mx with
 | none=>
   obtain rfl:=hc rfl;cases hi with
   | none=>
     simp only[dT,Option.some.injEq]at hh;subst hh;cases lo with
     | none=>simp only[dT,Option.some.injEq]at hl;subst hl;simp
     | some lv=>simp only[dT]at hl;simp[gK hl (Nat.le_refl _) w]
   | some hv=>
     simp only[dT]at hh;cases lo with
     | none=>simp only[dT,Option.some.injEq]at hl;subst hl;simp[gK hh ht w]
     | some lv=>simp only[dT]at hl;simp[gK hh ht w,gK hl (Nat.le_refl _) w]
 | some mv=>
   obtain⟨h1,h2⟩:=hc' mv rfl;cases hi with
   | none=>simp at hm
   | some hv=>
     simp only[dT]at hh;cases lo with
     | none=>simp only[dT,Option.some.injEq]at hl;subst hl;simp[gK h1 h2 w,gK hh ht w]
     | some lv=>simp only[dT]at hl;simp[gK h1 h2 w,gK hh ht w,gK hl (Nat.le_refl _) w]
theorem mj{d:Nat}{v:Option AV}(hb:dT t d v=some h)(hd:d<=t):h<=t:=by
 cases v with
 | none=>cases hb;exact hd
 | some v=>obtain⟨_,_,h⟩:=pj hb;exact h
theorem lJ(id off size mm h l:Nat) :
 aj m (jn id off size mm h l)=.slice (if mm=l then some ⟨(m id).a0,(m id).b0+off,none⟩else some ((⟨(m id).a0,(m id).b0+off,none⟩:Addr).add (l*size))) (h-l) (mm-l):=by
 unfold jn;by_cases e:mm=l
 . rw[gm e,cond_true,if_pos e];simp[aj,iR]
 . rw[ic e,cond_false,if_neg e,hJ];simp[aj,iR,Nat.add_assoc]
theorem ov{size l:Nat}(hd:D id):dh D m (jn id off size mm h l):=by
 unfold jn;cases Nat.beq mm l<;>(intro i hi;simp only[cond_true,cond_false,aC,List.mem_singleton,fi]at hi;subst hi;exact⟨hd,Nat.zero_le _⟩)
theorem B7{e:Nat}(h:Ds T t=some (n,e)):T.a0 t=some (.array n e):=by
 unfold Ds at h;cases hu:T.a0 t with
 | none=>simp[hu,Tj]at h
 | some d=>cases d<;>simp[hu,Tj]at h;simp[h]
theorem fw{e:Nat}(h:kr T t=some e):T.a0 t=some (.slice e):=by
 unfold kr at h;cases hu:T.a0 t with
 | none=>simp[hu,Di]at h
 | some d=>cases d<;>simp[hu,Di]at h;simp[h]
theorem wT(h:zO T t):T.a0 t=some .string:=by
 unfold zO at h;cases hu:T.a0 t with
 | none=>simp[hu,zF]at h
 | some d=>cases d<;>simp[hu,zF]at h;rfl
theorem y_{fs:Array Field}(h:wI T t=some fs):T.a0 t=some (.struct fs):=by
 unfold wI at h;cases hu:T.a0 t with
 | none=>simp[hu,pH]at h
 | some d=>cases d<;>simp[hu,pH]at h;simp[h]
section
variable{P:Program}{T:fm}(hT:fH P T)
include hT
theorem CM{t:TypeId}{v:AV}{lo hi mx:Option AV}(hx:dh D m x)(h:sw T t lo hi mx x=some v)(w:World) :
 (Instr.sliceAt t (aj m x) (lo.map (aj m)) (hi.map (aj m)) (mx.map (aj m))).run P w=.ok (aj m v) w/\dh D m v:=by
 cases x<;>simp only[sw,reduceCtorEq,ag,aA]at h
 case g id off=>
  have hd:D id:=(hx (id,0) (by simp[aC])).1;obtain⟨⟨n,e⟩,ha,size,hs,h⟩:=h;simp only[jh,aA,ag,Option.some.injEq,Bool.or_eq_true,Option.isNone_iff_eq_none]at h;obtain⟨hm,mm,h1,hh,h2,l,h3,rfl⟩:=h;refine⟨?_,ov hd⟩;have hb:=jf (P:=P) (m:=m) (b:=false) (len:=n) (cap:=n) (c0:=n) (mm:=mm) (lo:=lo) (hi:=hi) (mx:=mx) (λe=>by subst e;cases h1;rfl) (λv e=>by subst e;exact⟨h1,Nat.le_refl _⟩) hm ⟨mm,h2,Nat.le_refl _⟩ h3 w;simp only[Instr.sliceAt,Sem.run_bind,a_ hT (B7 ha) w,Result.andThen_ok,aj,Instr.sureAddr,Sem.run_pure,hb,ep hT hs w,lJ];split<;>rfl
 case d s=>
  obtain⟨hst,h⟩:=h;simp only[Bool.and_eq_true,Option.isNone_iff_eq_none]at hst;obtain⟨hst,rfl⟩:=hst;simp only[xI,ag,Option.some.injEq]at h;obtain⟨hh,h2,l,h3,rfl⟩:=h;refine⟨?_,bM (by simp[aC])⟩;have hsz:(ByteArray.mk ⟨s⟩).size=s.length:=rfl;have hb:=jf (P:=P) (m:=m) (b:=false) (len:=s.length) (cap:=s.length) (c0:=0) (mm:=s.length) (lo:=lo) (hi:=hi) (mx:=none) (λ_=>rfl) (λv e=>by cases e) (.inl rfl) ⟨s.length,h2,Nat.le_refl _⟩ h3 w;simp only[Option.map_none]at hb;simp only[Instr.sliceAt,Sem.run_bind,a_ hT (wT hst) w,Result.andThen_ok,aj,Instr.slice,Option.map_none,hsz,hb,Option.isSome_none,Bool.false_eq_true,if_false,Sem.run_pure];congr 2
  apply ByteArray.ext;apply Array.toList_inj.1;simp[ByteArray.data_extract,List.drop_take]
 case f=>
  obtain⟨e,he,sz,hs,h⟩:=h;simp only[xV,aA,ag,Option.some.injEq,Bool.or_eq_true,Option.isNone_iff_eq_none]at h;obtain⟨hm,mm,h1,hh,h2,l,h3,rfl⟩:=h;refine⟨?_,bM (by simp[aC])⟩;have hm0:mm=0:=Nat.le_zero.1 (mj h1 (Nat.le_refl _));have hh0:hh=0:=Nat.le_zero.1 (mj h2 (Nat.le_refl _));subst hm0 hh0;have hl0:l=0:=Nat.le_zero.1 (mj h3 (Nat.le_refl _));subst hl0;have hb:=jf (P:=P) (m:=m) (b:=true) (len:=0) (cap:=0) (c0:=0) (mm:=0) (lo:=lo) (hi:=hi) (mx:=mx) (λ_=>rfl) (λv e=>by subst e;exact⟨h1,Nat.le_refl _⟩) hm ⟨0,h2,Nat.le_refl _⟩ h3 w;simp only[Instr.sliceAt,Sem.run_bind,a_ hT (fw he) w,Result.andThen_ok,aj,Instr.slice,hb,ep hT hs w,Sem.run_pure,if_true,Nat.sub_zero]
 case c id off len c=>
  have hd:D id:=(hx (id,fi len c) (by simp[aC])).1;have hneed:=(hx (id,fi len c) (by simp[aC])).2;obtain⟨e,he,size,hs,h⟩:=h;cases c with
  | b c=>
    simp only[og,jh,aA,ag,Option.some.injEq,Bool.or_eq_true,Option.isNone_iff_eq_none]at h;obtain⟨hm,mm,h1,hh,h2,l,h3,rfl⟩:=h;refine⟨?_,ov hd⟩;have hb:=jf (P:=P) (m:=m) (b:=true) (len:=len) (cap:=c) (c0:=c) (mm:=mm) (lo:=lo) (hi:=hi) (mx:=mx) (λe=>by subst e;cases h1;rfl) (λv e=>by subst e;exact⟨h1,Nat.le_refl _⟩) hm ⟨mm,h2,Nat.le_refl _⟩ h3 w;simp only[Instr.sliceAt,Sem.run_bind,a_ hT (fw he) w,Result.andThen_ok,aj,iR,Instr.slice,hb,ep hT hs w,Sem.run_pure,lJ];split<;>rfl
  | a k=>
    simp only[fi]at hneed;cases mx with
    | none=>
      simp only[og,vu,ag]at h;obtain⟨hh,h2,l,h3,h⟩:=h;have hhl:hh<=len:=mj h2 (Nat.le_refl _);have hll:l<=hh:=mj h3 (Nat.zero_le _);have hb:=jf (P:=P) (m:=m) (b:=true) (len:=len) (cap:=(m id).c0-k) (c0:=0) (mm:=(m id).c0-k) (lo:=lo) (hi:=hi) (mx:=none) (λ_=>rfl) (λv e=>by cases e) (.inl rfl) ⟨len,h2,by omega⟩ h3 w;simp only[Option.map_none]at hb;simp only[ph]at h;by_cases hl0:l=0
      . rw[gm hl0,cond_true,Option.some.injEq]at h;subst h hl0;refine⟨?_,λi hi=>?_⟩
        . simp only[Instr.sliceAt,Sem.run_bind,a_ hT (fw he) w,Result.andThen_ok,aj,iR,Instr.slice,hb,ep hT hs w,Sem.run_pure,Nat.zero_mul,Option.map_none,Option.map_some,hJ,Nat.add_zero,ite_self,Nat.sub_zero]
        . simp only[aC,List.mem_singleton,fi]at hi;subst hi;exact⟨hd,by simp only;omega⟩
      . rw[ic hl0,cond_false,aA,aU,Option.some.injEq]at h;obtain⟨hlt,rfl⟩:=h;refine⟨?_,λi hi=>?_⟩
        . have hne:¬((m id).c0-k=l):=by omega
          simp only[Instr.sliceAt,Sem.run_bind,a_ hT (fw he) w,Result.andThen_ok,aj,iR,Instr.slice,hb,ep hT hs w,Sem.run_pure,Option.map_none,Option.map_some,hJ,if_neg hne];rw[Nat.sub_sub,Nat.add_assoc]
        . simp only[aC,List.mem_singleton,fi]at hi;subst hi;exact⟨hd,by simp only;omega⟩
    | some mv=>
      simp only[og,nq,aA,ag,Option.some.injEq]at h;obtain⟨hm,mm,h1,hh,h2,l,h3,rfl⟩:=h;refine⟨?_,ov hd⟩;have hb:=jf (P:=P) (m:=m) (b:=true) (len:=len) (cap:=(m id).c0-k) (c0:=len) (mm:=mm) (lo:=lo) (hi:=hi) (mx:=some mv) (λe=>by cases e) (λv e=>by cases e;exact⟨h1,by omega⟩) (.inr hm) ⟨mm,h2,Nat.le_refl _⟩ h3 w;simp only[Instr.sliceAt,Sem.run_bind,a_ hT (fw he) w,Result.andThen_ok,aj,iR,Instr.slice,hb,ep hT hs w,Sem.run_pure,lJ];split<;>rfl
theorem zP{s:TypeId}{f:Nat}{v:AV}(hx:dh D m x)(h:qx T s f x=some v)(w:World):(Instr.fieldAt s (aj m x) f).run P w=.ok (aj m v) w/\dh D m v:=by
 simp only[qx,wb,ag,aA,Option.some.injEq,aU]at h;obtain⟨fs,hs,q,⟨fd,hf,n,hn,rfl⟩,hp,h⟩:=h;cases x<;>simp only[Jd,reduceCtorEq,Option.some.injEq]at h;rename_i id off;subst h;have hd:D id:=(hx (id,0) (by simp[aC])).1;have hne:¬n=0:=by simp only at hp;omega
 refine⟨?_,λi hi=>by simp only[aC,List.mem_singleton]at hi;subst hi;exact⟨hd,Nat.zero_le _⟩⟩;simp[Instr.fieldAt,a_ hT (y_ hs) w,hf,aj,Instr.sureAddr,fieldPlace,ep hT hn w,hne,hJ,Nat.add_assoc]
theorem HJ{s:TypeId}{f:Nat}{v:AV}(hx:dh D m x)(h:Ew T s f x=some v)(w:World):(Instr.field s (aj m x) f).run P w=.ok (aj m v) w/\dh D m v:=by
 cases x<;>simp only[Ew,reduceCtorEq,ag]at h;obtain⟨fs,hs,fd,hf,h⟩:=h;refine⟨?_,CX hT h (iL.1 hx)⟩;simp[Instr.field,a_ hT (y_ hs) w,hf,aj,asAgg,kj hT h w]
theorem zJ{t:TypeId}{i:Nat}{v:AV}(hx:dh D m x)(h:kR T t i x=some v)(w:World):(Instr.indexAt t (aj m x) (.int k i)).run P w=.ok (aj m v) w/\dh D m v:=by
 cases x<;>simp only[kR,reduceCtorEq,ag,aA,Option.some.injEq,aU]at h
 . rename_i id off;obtain⟨⟨n,e⟩,ha,hi,sz,hs,rfl⟩:=h;have hd:D id:=(hx (id,0) (by simp[aC])).1;refine⟨?_,λj hj=>by simp only[aC,List.mem_singleton]at hj;subst hj;exact⟨hd,Nat.zero_le _⟩⟩;have hi':i<n:=hi;simp[Instr.indexAt,asIntOf,a_ hT (B7 ha) w,aj,Instr.sureAddr,ep hT hs w,hJ,Nat.add_assoc,hi']
 . rename_i id off len c;obtain⟨e,ha,hi,sz,hs,rfl⟩:=h;have hd:D id:=(hx (id,fi len c) (by simp[aC])).1;refine⟨?_,λj hj=>by simp only[aC,List.mem_singleton]at hj;subst hj;exact⟨hd,Nat.zero_le _⟩⟩;simp[Instr.indexAt,asIntOf,a_ hT (fw ha) w,aj,ep hT hs w,hJ,Nat.add_assoc,hi]
theorem IP{t:TypeId}{i:Nat}{v:AV}(hx:dh D m x)(h:yk T t i x=some v)(w:World):(Instr.index t (aj m x) (.int k i)).run P w=.ok (aj m v) w/\dh D m v:=by
 cases x<;>simp only[yk,reduceCtorEq,ag,aA,Option.some.injEq,aU]at h
 . rename_i s;obtain⟨ht,b,hb,rfl⟩:=h;refine⟨?_,bM (by simp[jx,aC])⟩;have hlt:=(List.getElem?_eq_some_iff.1 hb).1;have hs:(ByteArray.mk ⟨s⟩)[i]? = some b:=by
    rw[ByteArray.getElem?_lt' _ _ (by exact hlt)];exact congrArg some (List.getElem?_eq_some_iff.1 hb).2
   simp[Instr.index,asIntOf,a_ hT (wT ht) w,aj,jx,hs]
 . rename_i cs;obtain⟨⟨n,e⟩,ha,hi,sz,hs,h⟩:=h;refine⟨?_,CX hT h (iL.1 hx)⟩;try simp only at hi h hs
   simp[Instr.index,asIntOf,a_ hT (B7 ha) w,aj,ep hT hs w,hi,kj hT h w]
end
end Go.Ev
