import Derived.Laws.StructEq
import Derived.Laws.CopyRow
import Derived.Laws.Slices
import Derived.Test.YtoghlpcacfnjbaaGreatDoorP04
set_option linter.all false
set_option maxRecDepth 100000
set_option maxHeartbeats 4000000
namespace Go.Ev
open Go Go.RowKit
variable{D:Nat->Prop}{m:Nat->bq}{k:IntKind}{b:Bool}{n off id mm h t:Nat}{x y:AV}{op:BinOp}{xo yo:Operand}{cs vs:List AV}{C:bg}{o o':aC}{T:fb}
theorem ic{a b:IntKind}:gN a b=true↔a=b:=by
 rw[gN,cO];cases a<;>cases b<;>simp[kS]
theorem pr{a b:Int}:ab a b=true↔a<=b:=by
 cases a<;>cases b<;>simp only[ab]
 . simp_all
 . grind
 . grind
 . simp only[bv,Int.negSucc_eq];omega
theorem po{a b:Int}:aa a b=true↔a=b:=by
 cases a<;>cases b<;>simp only[aa]
 . rw[cO];exact Int.ofNat_inj.symm
 . simp
 . simp
 . simp_all
theorem sV(a b:Int):aa a b=(a==b):=by
 rw[Bool.eq_iff_iff,po,beq_iff_eq]
theorem ea(a b:Int):ab a b=decide (a<=b):=by
 rw[Bool.eq_iff_iff,pr,decide_eq_true_iff]
theorem kU(k:IntKind)(n:Int):GQ k n=.int k n:=by
 cases n with
 | ofNat n=>cases n<;>rfl
 | negSucc n=>cases n<;>rfl
theorem gD(n:Nat):goInt n=.int .i64 n:=by cases n<;>rfl
theorem E_(k:IntKind)(n:Nat):Hs k .ofNat n=.int k n:=by cases n<;>rfl
theorem Bs(k:IntKind)(n:Int)(h1:dP k<=n)(h2:n<=dR k):k.wrap n=n:=by
 cases k<;>simp only[dP,dR]at h1 h2<;>simp[IntKind.wrap,IntKind.bits,IntKind.signed]<;>omega
theorem K7(k:IntKind)(n:Int):Cb k n=k.wrap n:=by
 unfold Cb;cases h:ab (dP k) n&&ab n (dR k)with
 | true=>
   rw[Bool.and_eq_true,pr,pr]at h;exact(Bs k n h.1 h.2).symm
 | false=>rfl
theorem rU(k:IntKind)(n:Int):iN k n=some (.int k (k.wrap n)):=by rw[iN,kU,K7]
theorem wt{n:Int}:db D m (.int k n):=λi hi=>by simp[aD]at hi
theorem sj:db D m (.bool b):=λi hi=>by simp[aD]at hi
theorem mO(a b:Bool):bW a b=(a==b):=by cases a<;>cases b<;>rfl
theorem bX:∀a b:List UInt8,af a b=(a==b)
 | [],[]=>rfl
 | [],_::_=>rfl
 | _::_,[]=>rfl
 | a::x,b::y=>by
   rw[af,bX x y,List.cons_beq_cons];congr 1
   rw[Bool.eq_iff_iff,cO,beq_iff_eq];exact UInt8.toNat_inj
theorem yD:∀a b:List UInt8,rt a b=Op.bytesLess a b
 | [],[]=>rfl
 | [],_::_=>rfl
 | _::_,[]=>rfl
 | a::x,b::y=>by
   rw[rt,yD x y,Op.bytesLess];have e1:aW a.toNat b.toNat=decide (a<b):=by rw[Bool.eq_iff_iff,aS,decide_eq_true_iff];exact Iff.rfl
   have e2:Nat.beq a.toNat b.toNat=(a==b):=by rw[Bool.eq_iff_iff,cO,beq_iff_eq];exact UInt8.toNat_inj
   rw[e1,e2]
theorem mq(s:List UInt8):(ByteArray.mk ⟨s⟩).toList=s:=ByteArray.toList_mk s
section
variable{P:Program}{T:fb}(hT:fF P T)
include hT
theorem pU{n:Nat}{m:Nat->bq}(cmp:TypeId->AV->AV->Option Bool)(hc:∀t x y b,cmp t x y=some b->∀w,(Op.equalIn n t (aj m x) (aj m y)).run P w=.ok b w)(xs ys:List AV) :
 ∀(fs:List Field) (b:Bool),iR T cmp xs ys fs=some b->∀w,(Op.eqFields n (ap m xs).toArray (ap m ys).toArray fs).run P w=.ok b w
 | [],b,h,w=>by cases h;simp[Op.eqFields]
 | f::fs,b,h,w=>by
   simp only[iR,aA,ai,Bool.not_eq_true']at h;obtain⟨h1,x,hx,y,hy,r,hr,h⟩:=h;have hne:f.name ≠ "_" := by simpa using h1
   simp only[Op.eqFields,if_pos hne,Sem.run_bind,kg hT hx w,kg hT hy w,Result.andThen_ok,hc _ _ _ _ hr w];cases r with
   | true=>
     simp only[cond_true]at h;simpa using pU cmp hc xs ys fs b h w
   | false=>
     simp_all
theorem qI{n sz:Nat}{m:Nat->bq}(elem:TypeId)(cmp:AV->AV->Option Bool)(hc:∀x y b,cmp x y=some b->∀w,(Op.equalIn n elem (aj m x) (aj m y)).run P w=.ok b w)(xs ys:List AV) :
 ∀(len i:Nat) (b:Bool),kz T cmp elem sz xs ys i len=some b->∀w,
  (forIn (List.range' i len) ((none,()):Option Bool×PUnit) (λj _=>do
    let a <-part elem (ap m xs).toArray (j*sz)
    let c <-part elem (ap m ys).toArray (j*sz)
    let r <-Op.equalIn n elem a c
    if(!r)=true then pure (ForInStep.done (some false,()))else pure (ForInStep.yield (none,())):Nat->Option Bool×PUnit->Sem (ForInStep (Option Bool×PUnit)))).run P w =
  .ok (if b then none else some false,()) w
 | 0,i,b,h,w=>by cases h;simp
 | len+1,i,b,h,w=>by
   simp only[kz,ai]at h;obtain⟨x,hx,y,hy,r,hr,h⟩:=h;simp only[List.range'_succ,List.forIn_cons,Sem.run_bind,kg hT hx w,kg hT hy w,Result.andThen_ok,hc _ _ _ hr w];cases r with
   | true=>
     simp only[cond_true]at h;simpa using qI elem cmp hc xs ys len (i+1) b h w
   | false=>
     simp_all
theorem B3{len sz:Nat}{t elem:TypeId}(ht:T.und t=some (.array len elem))(hs:gO T elem=some sz)(cmp:AV->AV->Option Bool)(hc:∀x y b,cmp x y=some b->∀w,(Op.equalIn n elem (aj m x) (aj m y)).run P w=.ok b w)
 (xs ys:List AV) (b:Bool) (h:kz T cmp elem sz xs ys 0 len=some b) (w:World):(Op.equalIn (n+1) t (.agg (ap m xs).toArray) (.agg (ap m ys).toArray)).run P w=.ok b w:=by
 simp only[Op.equalIn,Sem.run_bind,bc hT ht w,Result.andThen_ok,ek hT hs w];have:=qI hT elem cmp hc xs ys len 0 b h w;rw[Std.Legacy.Range.forIn_eq_forIn_range'];simp only[Std.Legacy.Range.size,Nat.sub_zero,Nat.add_sub_cancel,Nat.div_one];rw[this];cases b<;>simp
theorem Ba{t:TypeId}{fs:Array Field}(ht:T.und t=some (.struct fs))(hs:P.stoodInHeld t=false)(cmp:TypeId->AV->AV->Option Bool)(hc:∀t x y b,cmp t x y=some b->∀w,(Op.equalIn n t (aj m x) (aj m y)).run P w=.ok b w)
 (xs ys:List AV) (b:Bool) (h:iR T cmp xs ys fs.toList=some b) (w:World):(Op.equalIn (n+1) t (.agg (ap m xs).toArray) (.agg (ap m ys).toArray)).run P w=.ok b w:=by
 have hu:=ju hT ht;have hf:P.fieldsOf t=fs:=by simp[Program.fieldsOf,hu]
 rw[run_equalIn_struct w n t _ _ (by rw[hf];exact hu) hs,hf];exact pU hT cmp hc xs ys fs.toList b h w
theorem Af{t:TypeId}(h:CW (T.und t) x y=some b)(w:World):(Op.equalIn (n+1) t (aj m x) (aj m y)).run P w=.ok b w:=by
 simp only[CW,aA,Option.some.injEq,Bool.and_eq_true,cO]at h;obtain⟨⟨⟨h1,h2⟩,h3⟩,rfl⟩:=h;cases hd:T.und t with
 | none=>rw[hd]at h1 h2;cases x<;>simp[CS,FM]at h1
 | some d=>
   rw[hd]at h1 h2;have hr:=bc hT hd w;cases d<;>simp only[FM]at h1 h2<;>cases x<;>simp only[CS]at h1<;>(first|(exfalso;revert h1;decide)|skip)<;>
    cases y<;>simp only[CS]at h2<;>(first|(exfalso;revert h2;decide)|skip)<;>(first|(simp[tA]at h3;done)|simp[Op.equalIn,hr,aj,tA])
theorem Oa(cmp:TypeId->AV->AV->Option Bool)(hc:∀t x y b,cmp t x y=some b->∀w,(Op.equalIn n t (aj m x) (aj m y)).run P w=.ok b w)(t:TypeId)(x y:AV)(b:Bool)
 (h:Md T cmp t x y=some b) (w:World):(Op.equalIn (n+1) t (aj m x) (aj m y)).run P w=.ok b w:=by
 cases x with
 | bool a=>
   cases y<;>simp only[Md,BL,aA,Option.some.injEq,reduceCtorEq]at h;obtain⟨h1,rfl⟩:=h;cases hd:T.und t with
   | none=>simp[hd,In]at h1
   | some d=>cases d<;>simp[hd,In]at h1;simp[Op.equalIn,bc hT hd w,aj,mO]
 | int k a=>
   cases y<;>simp only[Md,EV,aA,Option.some.injEq,reduceCtorEq,Bool.and_eq_true,ic]at h;obtain⟨⟨h1,rfl⟩,rfl⟩:=h;cases hd:T.und t with
   | none=>simp[Qd,hd,Q7]at h1
   | some d=>cases d<;>simp[Qd,hd,Q7]at h1;simp[Op.equalIn,bc hT hd w,aj,sV]
 | str a=>
   cases y<;>simp only[Md,ET,aA,Option.some.injEq,reduceCtorEq]at h;obtain⟨h1,rfl⟩:=h;cases hd:T.und t with
   | none=>simp[za,hd,yY]at h1
   | some d=>
     cases d<;>simp[za,hd,yY]at h1;simp only[Op.equalIn,Sem.run_bind,bc hT hd w,aj,bX,Result.andThen_ok,beq_toListBytes,mq,Sem.run_pure]
 | agg xs=>
   cases y<;>simp only[Md,DD,reduceCtorEq]at h;rename_i ys;cases hd:T.und t with
   | none=>simp[hd,AG]at h
   | some d=>
     cases d<;>simp only[hd,AG,reduceCtorEq,ai]at h
     . obtain⟨sz,hs,h⟩:=h;simp only[aj];exact B3 hT hd hs _ (λx y b h w=>hc _ x y b h w) xs ys b h w
     . rename_i fields;obtain⟨e,he,h⟩:=h;simp only[aA,Bool.not_eq_true']at h;have hst:=(hT.ty t e he).2.2.2;have heu:e.u=.struct fields:=by
        have:=hd;simp only[fb.und,he,ob,Option.some.injEq]at this;exact this
       simp only[aj];exact Ba hT hd (by rw[hst (by rw[heu];rfl)];exact h.1) cmp hc xs ys b h.2 w
 | iface a u=>
   cases y with
   | iface c v=>
     simp only[Md,nX,aA]at h;obtain⟨h1,h⟩:=h;cases hd:T.und t with
     | none=>simp[hd,DJ]at h1
     | some d=>
       cases d<;>simp[hd,DJ]at h1;by_cases e:a=c
       . subst e;rw[gb rfl,cond_true]at h;simp only[ai,aA]at h;obtain⟨i,hi,hcm,h⟩:=h;simp[Op.equalIn,bc hT hd w,aj,o9 hT hi w,hcm,hc _ _ _ _ h w]
       . rw[g7 e,cond_false,Option.some.injEq]at h;subst h;simp[Op.equalIn,bc hT hd w,aj,e]
   | _=>exact Af hT (by simpa only[Md,nX]using h) w
 | _=>exact Af hT (by simpa only[Md]using h) w
theorem BF{m:Nat->bq}:∀(d:Nat) (t:TypeId) (x y:AV) (b:Bool),Of T d t x y=some b->∀n,d<=n->∀w,(Op.equalIn n t (aj m x) (aj m y)).run P w=.ok b w
 | 0,_,_,_,_,h,_,_,_=>by cases h
 | d+1,t,x,y,b,h,n,hn,w=>by
   obtain⟨n,rfl⟩:∃k,n=k+1:=⟨n-1,by omega⟩;exact Oa hT (Of T d) (λt x y b h w=>BF d t x y b h n (by omega) w) t x y b h w
end
section
variable{P:Program}{T:fb}(hT:fF P T)
theorem ltd(a b:Int):decide (a<b)=!decide (b<=a):=by rw[<-decide_not,decide_eq_decide];omega
theorem KM{t:TypeId}{a:Int}{v:AV}(h:Km op k a y=some v)(w:World) :
 (binOp op t (.int k a) (aj m y)).run P w=.ok (aj m v) w/\aD v=[]:=by
 cases y<;>simp only[Km,reduceCtorEq]at h;rename_i k' b;cases hs:oR op with
 | true=>
   simp only[hs,cond_true,DV,aA,pr]at h;obtain⟨h0,h⟩:=h;have hb:¬b<0:=by omega
   cases op<;>simp[oR]at hs
   . simp only[rU,Option.some.injEq]at h;subst h;simp[aj,binOp,Op.shift,hb,Bc,aD]
   . simp only[kU,Option.some.injEq]at h;subst h;simp[aj,binOp,Op.shift,hb,Bc,aD]
 | false=>
   simp only[hs,cond_false,aA,ic]at h;obtain⟨rfl,h⟩:=h;cases op<;>simp[oR]at hs;all_goals simp only[A3,TV,V7,V8,QG,Rz,Tg,Z2,NR,GB,RA,PP,SS,Qh,Sx,SJ,Ce,rU,kU,aA,Option.some.injEq,Bool.not_eq_true',sV,ea,reduceCtorEq]at h
   all_goals first
    | (obtain⟨h0,h⟩:=h;subst h;have h0':¬b=0:=by simpa using h0
       simp[aj,binOp,Op.intDiv,h0',aD];done)
    | (subst h;simp[aj,binOp,Op.intArith,Op.intBits,Op.intCmp,aD];done)
    | (subst h;simp[aj,binOp,Op.intArith,Op.intBits,Op.intCmp,aD];rfl)
    | (subst h;simp[aj,binOp,Op.intCmp,aD];exact ltd _ _)
theorem L_{t:TypeId}{a:List UInt8}{v:AV}(h:L8 op a y=some v)(w:World) :
 (binOp op t (.string ⟨⟨a⟩⟩) (aj m y)).run P w=.ok (aj m v) w/\aD v=[]:=by
 cases y<;>simp only[L8,reduceCtorEq]at h;rename_i b;cases op<;>simp only[Sf,aA,Option.some.injEq,reduceCtorEq,bv]at h
 case add=>
  obtain⟨hl,rfl⟩:=h;have hn:¬(((ByteArray.mk ⟨a⟩).size+(ByteArray.mk ⟨b⟩).size:Nat):Int) > IntKind.i64.max:=by
   simp only[ByteArray.size,List.size_toArray,IntKind.max,IntKind.bits,IntKind.signed,if_true];omega
  refine⟨?_,by simp[aD]⟩;simp only[aj,binOp,Op.stringOp];rw[if_neg hn];have:(ByteArray.mk ⟨a⟩)++(ByteArray.mk ⟨b⟩)=ByteArray.mk ⟨a++b⟩:=by
   apply ByteArray.ext;rw[ByteArray.data_append];simp
  simp[this]
 all_goals
  subst h;refine⟨?_,by simp[aD]⟩;simp only[aj,binOp,Op.stringOp,mq,bX,yD];simp
theorem oS{T:fb}{t:TypeId}(h:jM T t xo yo x y):ov x/\ov y=true:=by
 unfold jM at h;rw[Bool.and_eq_true,Bool.and_eq_true]at h;exact⟨h.1,h.2.1⟩
def wY:AV->Bool
 | .int _ _|.str _|.any _=>false
 | _=>true
theorem EL{t:TypeId}(h:wY x)(hy:ov y):binOp .eql t (aj m x) (aj m y)=(do pure (.bool (<-Op.equal t (aj m x) (aj m y)))):=by
 cases x<;>simp[wY]at h<;>cases y<;>first|rfl|cases hy
theorem Ew{t:TypeId}(h:wY x)(hy:ov y):binOp .neq t (aj m x) (aj m y)=(do pure (.bool (!(<-Op.equal t (aj m x) (aj m y))))):=by
 cases x<;>simp[wY]at h<;>cases y<;>first|rfl|cases hy
theorem jp{t:TypeId}{X Y:Value}(h1:¬(X=.nilIface/\Y=.nilIface))(h2:¬(∃a b,X=.agg a/\Y=.agg b))(w:World):(eqGuard op t xo yo X Y).run P w=.ok () w:=by
 unfold eqGuard;cases X<;>cases Y<;>first|(exact absurd ⟨rfl,rfl⟩ h1)|(exact absurd ⟨_,_,rfl,rfl⟩ h2)|(cases op<;>simp)
include hT
theorem Am{t:TypeId}(h:jM T t xo yo x y)(w:World):(eqGuard op t xo yo (aj m x) (aj m y)).run P w=.ok () w:=by
 obtain⟨hx,hy⟩:=oS h;cases x with
 | any v=>cases hx
 | agg xs=>
   cases y with
   | any v=>cases hy
   | agg ys=>
     simp only[jM,ov,Bool.true_and]at h;cases he:T.ty.get t with
     | none=>simp[he,ob]at h
     | some e=>
       simp only[he,ob,Option.getD_some,Bool.and_eq_true,Bool.not_eq_true']at h;have:=(hT.ty t e he).2.2.1 h.1;simp only[aj];exact run_eqGuard_agg w op t xo yo _ _ (this.trans h.2)
   | _=>exact jp (by simp[aj]) (by simp[aj]) w
 | niliface=>
   cases y with
   | any v=>cases hy
   | niliface=>
     simp only[jM,ov,Bool.true_and,Bool.or_eq_true]at h;simp only[aj];rcases h with h|h
     . cases xo<;>simp[rH]at h;cases op<;>simp[eqGuard]
     . cases yo<;>simp[rH]at h;cases xo<;>cases op<;>simp[eqGuard]
   | _=>exact jp (by simp[aj]) (by simp[aj]) w
 | _=>exact jp (by simp[aj]) (by simp[aj]) w
theorem K8{t:TypeId}{v:AV}(h:Jv T op t xo yo x y=some v)(w:World) :
 (do eqGuard op t xo yo (aj m x) (aj m y);binOp op t (aj m x) (aj m y):Sem Value).run P w=.ok (aj m v) w/\aD v=[]:=by
 have key:wY x->CG op (ok (jM T t xo yo x y) (Of T 100 t x y))=some v->(do eqGuard op t xo yo (aj m x) (aj m y);binOp op t (aj m x) (aj m y):Sem Value).run P w=.ok (aj m v) w/\aD v=[]:=by
  intro hb h;cases op<;>simp only[CG,ai,aA,Option.some.injEq,reduceCtorEq]at h
  . obtain⟨b,⟨hg,he⟩,rfl⟩:=h;refine⟨?_,by simp[aD]⟩;rw[Sem.run_bind,Am hT hg w,Result.andThen_ok,EL hb (oS hg).2];simp[Op.equal,Op.maxDepth,BF hT 100 t x y b he 10000 (by omega) w,aj]
  . obtain⟨b,⟨hg,he⟩,rfl⟩:=h;refine⟨?_,by simp[aD]⟩;rw[Sem.run_bind,Am hT hg w,Result.andThen_ok,Ew hb (oS hg).2];simp[Op.equal,Op.maxDepth,BF hT 100 t x y b he 10000 (by omega) w,aj]
 cases x with
 | int k a=>
   obtain⟨h1,h2⟩:=KM (P:=P) (t:=t) (m:=m) h w;refine⟨?_,h2⟩;rw[Sem.run_bind,jp (by simp[aj]) (by simp[aj]) w];simpa [aj]using h1
 | str a=>
   obtain⟨h1,h2⟩:=L_ (P:=P) (t:=t) (m:=m) h w;refine⟨?_,h2⟩;rw[Sem.run_bind,jp (by simp[aj]) (by simp[aj]) w];simpa [aj]using h1
 | any a=>
   exfalso;have hg:jM T t xo yo (.any a) y=false:=by
    cases hg:jM T t xo yo (.any a) y with
    | false=>rfl
    | true=>cases(oS hg).1
   simp only[Jv,hg,ok,cond_false]at h;cases op<;>simp[CG,ob]at h
 | _=>exact key rfl h
omit hT in
theorem NQ{op:UnOp}{v:AV}(h:Vf op x=some v)(w:World):(Op.unary op (aj m x)).run P w=.ok (aj m v) w/\aD v=[]:=by
 cases x<;>simp only[Vf,reduceCtorEq]at h
 . cases op<;>simp at h;subst h;simp[aj,Op.unary,aD]
 . cases op<;>simp only[rU,NR,Option.some.injEq,reduceCtorEq]at h
   . subst h;simp[aj,Op.unary,Op.intArith,aD];exact congrArg _ (Int.zero_sub _).symm
   . subst h;simp[aj,Op.unary,Op.intBits,aD]
end
theorem xk:∀{cs vs r:List AV},vu cs vs=some r->r=vs++cs.drop vs.length/\vs.length<=cs.length
 | cs,[],r,h=>by cases cs<;>(simp only[vu,Option.some.injEq]at h;subst h;simp)
 | [],_::_,r,h=>by cases h
 | c::cs,v::vs,r,h=>by
   simp only[vu,ai,Option.some.injEq]at h;obtain⟨r',hr,rfl⟩:=h;obtain⟨rfl,hl⟩:=xk hr;simp;exact hl
theorem jf:∀{cs:List AV} {off:Nat} {vs r:List AV},xV cs off vs=some r->r=cs.take off++vs++cs.drop (off+vs.length)/\off+vs.length<=cs.length
 | cs,0,vs,r,h=>by
   have h':vu cs vs=some r:=by cases cs<;>exact h
   obtain⟨rfl,hl⟩:=xk h';simp;exact hl
 | [],n+1,vs,r,h=>by cases h
 | c::cs,n+1,vs,r,h=>by
   simp only[xV,ai,Option.some.injEq]at h;obtain⟨r',hr,rfl⟩:=h;obtain⟨rfl,hl⟩:=jf hr;rw[show n+1+vs.length=(n+vs.length)+1 by omega];simp;omega
theorem Hv{r:List AV}(h:xV cs off vs=some r):ap m r=(ap m cs).take off++ap m vs++(ap m cs).drop (off+(ap m vs).length):=by
 obtain⟨rfl,_⟩:=jf h;simp[fh]
theorem Gk{r:List AV}(h:xV cs off vs=some r)(hc:fN D m cs)(hv:fN D m vs):fN D m r:=by
 obtain⟨rfl,_⟩:=jf h;rw[dK]at hc hv ⊢;intro v hm;simp only[List.mem_append]at hm;rcases hm with(hm|hm)|hm
 . grind
 . grind
 . grind
theorem Jc{r:List AV}(h:xV cs off vs=some r)(i:Nat):r[i]? = if off<=i/\i<off+vs.length then vs[i-off]? else cs[i]? := by
 obtain⟨rfl,hl⟩:=jf h;rw[List.append_assoc,List.getElem?_append,List.length_take,Nat.min_eq_left (by omega)];by_cases h1:i<off
 . grind
 . grind
theorem B_:∀(vs:List Value) (j off:Nat) (A:Array Value),off+j+vs.length<=A.size->
 ((vs.zipIdx j).foldl (λcs p=>cs.setIfInBounds (off+p.2) p.1) A).toList=A.toList.take (off+j)++vs++A.toList.drop (off+j+vs.length)
 | [],j,off,A,h=>by simp
 | v::vs,j,off,A,h=>by
   simp only[List.length_cons]at h;rw[List.zipIdx_cons,List.foldl_cons,B_ vs (j+1) off _ (by simp;omega)];have e:=list_seg_step A.toList (off+j) v vs (by simp;omega);simpa [Array.toList_setIfInBounds,Nat.add_assoc]using e
theorem pj{m:Nat->bq}{place:Nat->Option (Nat×Nat)}:∀{ps:List (Nat×AV)} {cells r:List AV},vE place cells ps=some r->
 Instr.fill place (ap m cells).toArray (ps.map λp=>(p.1,aj m p.2))=some (ap m r).toArray
 | [],cells,r,h=>by cases h;simp[Instr.fill]
 | p::ps,cells,r,h=>by
   simp only[vE,ai,aA,cO]at h;obtain⟨q,hq,hl,r',hr,h⟩:=h;have hlen:=(jf hr).2;simp only[List.map_cons,Instr.fill,hq,fG];have h1:¬((ap m (bU p.2)).toArray.size≠q.2):=by simp[b_,hl]
   have h2:¬(q.1+(ap m (bU p.2)).toArray.size > (ap m cells).toArray.size):=by simp[b_];omega
   have hf:=B_ (ap m (bU p.2)) 0 q.1 (ap m cells).toArray (by simp[b_];omega);have ih:=pj (m:=m) h;have e:(ap m (bU p.2)).toArray.zipIdx.foldl (λcs (x:Value×Nat)=>cs.setIfInBounds (q.1+x.2) x.1) (ap m cells).toArray=(ap m r').toArray:=by
    apply Array.toList_inj.1;rw[<-Array.foldl_toList,Array.toList_zipIdx,hf,Hv hr];simp
   simp only[h1,h2,decide_false,Bool.or_self,Bool.false_eq_true,if_false];rw[<-ih];congr 1
theorem q_{D:Nat->Prop}{m:Nat->bq}{place:Nat->Option (Nat×Nat)}:∀{ps:List (Nat×AV)} {cells r:List AV},vE place cells ps=some r->fN D m cells->(∀p∈ps,db D m p.2)->fN D m r
 | [],cells,r,h,hc,_=>by cases h;exact hc
 | p::ps,cells,r,h,hc,hp=>by
   simp only[vE,ai,aA]at h;obtain⟨q,hq,hl,r',hr,h⟩:=h;exact q_ h (Gk hr hc (pt (hp p (by simp)))) (λp hm=>hp p (by simp[hm]))
theorem u_(w:World)(g:Nat)(cs:Array Value):(w.setRow g cs).heap.size=w.heap.size:=by simp[World.setRow]
theorem qt{P:Program}{cfg:cG}{w:World}(h:dV cfg D m C o w)(hd:D id)(hv:fN D m vs)(h1:ff vs)(hw:ly C o id off vs=some o') :
 ∃w',(storeCells ⟨(m id).blk,(m id).base+off,none⟩ (ap m vs) 0).run P w=.ok () w'/\dk cfg C D m o w D m o' w':=by
 simp only[ly,ai,Option.some.injEq]at hw;obtain⟨x,hx,x',hx',rfl⟩:=hw;cases x<;>simp only[A8,reduceCtorEq]at hx';rename_i cs rw g;cases rw<;>simp only[reduceCtorEq,ai,Option.some.injEq]at hx';obtain⟨cs',hl,rfl⟩:=hx';have hob:=h.obj id hd;rw[gf hx]at hob;obtain⟨c,e,fz,hb,hr⟩:=hob;obtain rfl:=hr.free rfl;have hokc:fN D m cs':=Gk hl hr.okc hv;by_cases hnil:vs=[]
 . subst hnil;have:cs'=cs:=by
    obtain⟨rfl,_⟩:=jf hl;simp
   subst this;refine⟨w,rfl,dk.put h hd hx rfl (Nat.le_refl _) (λ_ _=>rfl) ⟨c,e,(0,0),hb,hr⟩ rfl rfl rfl⟩
 . have hlen:=(jf hl).2;have hpos:0<vs.length:=List.length_pos_iff.2 hnil;have hfit:(m id).base+off+vs.length<=c.size:=by
    have hi:off+vs.length-1<cs.length:=by omega
    have:=hr.at' (off+vs.length-1) _ (List.getElem?_eq_getElem hi);have:=(Array.getElem?_eq_some_iff.1 this).1;omega
   have hst:=run_storeCells_at P (m id).blk ((m id).base+off) e (ap m vs) 0 c w hb (by rw[b_];omega) (λv hvm=>by
    rw[fh]at hvm;obtain⟨u,hu,rfl⟩:=List.mem_map.1 hvm;exact zH (p9.1 h1 u hu))
   refine⟨_,hst,dk.put h hd hx rfl (Nat.le_of_eq (u_ _ _ _).symm) (λk hk=>setRow_other _ _ _ _ hk) ?_ rfl rfl rfl⟩;refine⟨_,e,(0,0),setRow_heap w _ c _ e _ hb,⟨λi v hi=>?_,hokc,λ_=>rfl,λs hs=>?_⟩⟩
   . rw[Jc hl]at hi;simp only[Nat.add_zero,List.getElem?_toArray];rw[List.append_assoc,List.getElem?_append,List.length_take,Array.length_toList,Nat.min_eq_left (by omega)];by_cases hc1:off<=i/\i<off+vs.length
     . rw[if_pos hc1]at hi;rw[if_neg (by omega),List.getElem?_append,if_pos (by rw[b_];omega),show(m id).base+i-((m id).base+off)=i-off by omega,fZ,hi];rfl
     . rw[if_neg hc1]at hi;have hci:=hr.at' i v hi;by_cases hc2:i<off
       . grind
       . rw[if_neg (by omega),List.getElem?_append,if_neg (by rw[b_];omega),List.getElem?_drop,b_,Array.getElem?_toList];rw[<-hci];congr 1;omega
   . obtain⟨a1,a2,a3⟩:=hr.grow s hs;refine⟨a1,a2,?_⟩;simp only[Nat.add_zero,List.size_toArray,List.length_append,List.length_take,List.length_drop,Array.length_toList,b_];rw[<-a3];omega
section
variable{P:Program}{T:fb}(hT:fF P T)
include hT
theorem DN{cfg:cG}{w:World}(h:dV cfg D m C o w){t:TypeId}{p v:AV}(hp:db D m p)(hv:db D m v)(hs:yz T C o t v p=some o') :
 ∃w',(Instr.storeAt t (aj m p) (aj m v)).run P w=.ok () w'/\dk cfg C D m o w D m o' w':=by
 cases p<;>simp only[yz,reduceCtorEq,ai,aA,Bool.and_eq_true,cO]at hs;rename_i id off;obtain⟨n,hn,⟨hl,h1⟩,hw⟩:=hs;have hd:D id:=(hp (id,0) (by simp[aD])).1;obtain⟨w',hr,he⟩:=qt (P:=P) h hd (pt hv) h1 hw;refine⟨w',?_,he⟩;have hsz:(aj m v).cells.size=n:=by rw[fG];simp[b_,hl]
 simp only[Instr.storeAt,aj,Instr.sureAddr,storeVar,Sem.run_bind,Sem.run_pure,Result.andThen_ok,ek hT hn w,hsz];simp only[ne_eq,not_true,if_false,fG,Sem.run_bind];simpa using hr
end
theorem oV{hi:Nat}{v:AV}(h:yX hi v=some n):∃k,v=.int k (.ofNat n)/\n<=hi:=by
 unfold yX at h;split at h
 . simp only[aA,Option.some.injEq,bv]at h;obtain⟨h1,rfl⟩:=h;exact⟨_,rfl,h1⟩
 . cases h
theorem gJ{P:Program}{most:Nat}{v:AV}{y:Nat}{code:BoundsCode}(h:yX most v=some n)(hy:most<=y)(w:World):(Instr.sliceBound (aj m v) y code).run P w=.ok n w:=by
 obtain⟨k,rfl,hn⟩:=oV h;simp only[aj];rw[run_sliceBound w k _ y code (by simp) (by simp;omega)];simp
theorem iZ{P:Program}{len cap c0 l:Nat}{lo hi mx:Option AV}(hc:mx=none->mm=cap)(hc':∀v,mx=some v->yX c0 v=some mm/\c0<=cap)
 (hm:mx=none\/hi.isSome) (hh:∃t,dT t len hi=some h/\t<=mm) (hl:dT h 0 lo=some l) (w:World) :
 (Instr.sliceBounds b len cap (lo.map (aj m)) (hi.map (aj m)) (mx.map (aj m))).run P w=.ok (l,h,mm) w:=by
 obtain⟨t,hh,ht⟩:=hh;unfold Instr.sliceBounds;cases mx with
 | none=>
   obtain rfl:=hc rfl;cases hi with
   | none=>
     simp only[dT,Option.some.injEq]at hh;subst hh;cases lo with
     | none=>simp only[dT,Option.some.injEq]at hl;subst hl;simp
     | some lv=>simp only[dT]at hl;simp[gJ hl (Nat.le_refl _) w]
   | some hv=>
     simp only[dT]at hh;cases lo with
     | none=>simp only[dT,Option.some.injEq]at hl;subst hl;simp[gJ hh ht w]
     | some lv=>simp only[dT]at hl;simp[gJ hh ht w,gJ hl (Nat.le_refl _) w]
 | some mv=>
   obtain⟨h1,h2⟩:=hc' mv rfl;cases hi with
   | none=>simp at hm
   | some hv=>
     simp only[dT]at hh;cases lo with
     | none=>simp only[dT,Option.some.injEq]at hl;subst hl;simp[gJ h1 h2 w,gJ hh ht w]
     | some lv=>simp only[dT]at hl;simp[gJ h1 h2 w,gJ hh ht w,gJ hl (Nat.le_refl _) w]
theorem lV{d:Nat}{v:Option AV}(hb:dT t d v=some h)(hd:d<=t):h<=t:=by
 cases v with
 | none=>cases hb;exact hd
 | some v=>obtain⟨_,_,h⟩:=oV hb;exact h
theorem ld(id off size mm h l:Nat) :
 aj m (js id off size mm h l)=.slice (if mm=l then some ⟨(m id).blk,(m id).base+off,none⟩else some ((⟨(m id).blk,(m id).base+off,none⟩:Addr).add (l*size))) (h-l) (mm-l):=by
 unfold js;by_cases e:mm=l
 . rw[gb e,cond_true,if_pos e];simp[aj,jA]
 . rw[g7 e,cond_false,if_neg e,gU];simp[aj,jA,Nat.add_assoc]
theorem oz{size l:Nat}(hd:D id):db D m (js id off size mm h l):=by
 unfold js;cases Nat.beq mm l<;>(intro i hi;simp only[cond_true,cond_false,aD,List.mem_singleton,fj]at hi;subst hi;exact⟨hd,Nat.zero_le _⟩)
theorem Av{e:Nat}(h:BR T t=some (n,e)):T.und t=some (.array n e):=by
 unfold BR at h;cases hu:T.und t with
 | none=>simp[hu,Qn]at h
 | some d=>cases d<;>simp[hu,Qn]at h;simp[h]
theorem fq{e:Nat}(h:kx T t=some e):T.und t=some (.slice e):=by
 unfold kx at h;cases hu:T.und t with
 | none=>simp[hu,CY]at h
 | some d=>cases d<;>simp[hu,CY]at h;simp[h]
theorem vP(h:za T t):T.und t=some .string:=by
 unfold za at h;cases hu:T.und t with
 | none=>simp[hu,yY]at h
 | some d=>cases d<;>simp[hu,yY]at h;rfl
theorem yf{fs:Array Field}(h:wq T t=some fs):T.und t=some (.struct fs):=by
 unfold wq at h;cases hu:T.und t with
 | none=>simp[hu,oT]at h
 | some d=>cases d<;>simp[hu,oT]at h;simp[h]
section
variable{P:Program}{T:fb}(hT:fF P T)
include hT
theorem Dn{t:TypeId}{v:AV}{lo hi mx:Option AV}(hx:db D m x)(h:q8 T t lo hi mx x=some v)(w:World) :
 (Instr.sliceAt t (aj m x) (lo.map (aj m)) (hi.map (aj m)) (mx.map (aj m))).run P w=.ok (aj m v) w/\db D m v:=by
 cases x<;>simp only[q8,reduceCtorEq,ai,aA]at h
 case ptr id off=>
  have hd:D id:=(hx (id,0) (by simp[aD])).1;obtain⟨⟨n,e⟩,ha,size,hs,h⟩:=h;simp only[i_,aA,ai,Option.some.injEq,Bool.or_eq_true,Option.isNone_iff_eq_none]at h;obtain⟨hm,mm,h1,hh,h2,l,h3,rfl⟩:=h;refine⟨?_,oz hd⟩;have hb:=iZ (P:=P) (m:=m) (b:=false) (len:=n) (cap:=n) (c0:=n) (mm:=mm) (lo:=lo) (hi:=hi) (mx:=mx) (λe=>by subst e;cases h1;rfl) (λv e=>by subst e;exact⟨h1,Nat.le_refl _⟩) hm ⟨mm,h2,Nat.le_refl _⟩ h3 w;simp only[Instr.sliceAt,Sem.run_bind,bc hT (Av ha) w,Result.andThen_ok,aj,Instr.sureAddr,Sem.run_pure,hb,ek hT hs w,ld];split<;>rfl
 case str s=>
  obtain⟨hst,h⟩:=h;simp only[Bool.and_eq_true,Option.isNone_iff_eq_none]at hst;obtain⟨hst,rfl⟩:=hst;simp only[xn,ai,Option.some.injEq]at h;obtain⟨hh,h2,l,h3,rfl⟩:=h;refine⟨?_,bQ (by simp[aD])⟩;have hsz:(ByteArray.mk ⟨s⟩).size=s.length:=rfl;have hb:=iZ (P:=P) (m:=m) (b:=false) (len:=s.length) (cap:=s.length) (c0:=0) (mm:=s.length) (lo:=lo) (hi:=hi) (mx:=none) (λ_=>rfl) (λv e=>by cases e) (.inl rfl) ⟨s.length,h2,Nat.le_refl _⟩ h3 w;simp only[Option.map_none]at hb;simp only[Instr.sliceAt,Sem.run_bind,bc hT (vP hst) w,Result.andThen_ok,aj,Instr.slice,Option.map_none,hsz,hb,Option.isSome_none,Bool.false_eq_true,if_false,Sem.run_pure];congr 2
  apply ByteArray.ext;apply Array.toList_inj.1;simp[ByteArray.data_extract,List.drop_take]
 case nilslice=>
  obtain⟨e,he,sz,hs,h⟩:=h;simp only[xT,aA,ai,Option.some.injEq,Bool.or_eq_true,Option.isNone_iff_eq_none]at h;obtain⟨hm,mm,h1,hh,h2,l,h3,rfl⟩:=h;refine⟨?_,bQ (by simp[aD])⟩;have hm0:mm=0:=Nat.le_zero.1 (lV h1 (Nat.le_refl _));have hh0:hh=0:=Nat.le_zero.1 (lV h2 (Nat.le_refl _));subst hm0 hh0;have hl0:l=0:=Nat.le_zero.1 (lV h3 (Nat.le_refl _));subst hl0;have hb:=iZ (P:=P) (m:=m) (b:=true) (len:=0) (cap:=0) (c0:=0) (mm:=0) (lo:=lo) (hi:=hi) (mx:=mx) (λ_=>rfl) (λv e=>by subst e;exact⟨h1,Nat.le_refl _⟩) hm ⟨0,h2,Nat.le_refl _⟩ h3 w;simp only[Instr.sliceAt,Sem.run_bind,bc hT (fq he) w,Result.andThen_ok,aj,Instr.slice,hb,ek hT hs w,Sem.run_pure,if_true,Nat.sub_zero]
 case slice id off len c=>
  have hd:D id:=(hx (id,fj len c) (by simp[aD])).1;have hneed:=(hx (id,fj len c) (by simp[aD])).2;obtain⟨e,he,size,hs,h⟩:=h;cases c with
  | known c=>
    simp only[n9,i_,aA,ai,Option.some.injEq,Bool.or_eq_true,Option.isNone_iff_eq_none]at h;obtain⟨hm,mm,h1,hh,h2,l,h3,rfl⟩:=h;refine⟨?_,oz hd⟩;have hb:=iZ (P:=P) (m:=m) (b:=true) (len:=len) (cap:=c) (c0:=c) (mm:=mm) (lo:=lo) (hi:=hi) (mx:=mx) (λe=>by subst e;cases h1;rfl) (λv e=>by subst e;exact⟨h1,Nat.le_refl _⟩) hm ⟨mm,h2,Nat.le_refl _⟩ h3 w;simp only[Instr.sliceAt,Sem.run_bind,bc hT (fq he) w,Result.andThen_ok,aj,jA,Instr.slice,hb,ek hT hs w,Sem.run_pure,ld];split<;>rfl
  | rest k=>
    simp only[fj]at hneed;cases mx with
    | none=>
      simp only[n9,sH,ai]at h;obtain⟨hh,h2,l,h3,h⟩:=h;have hhl:hh<=len:=lV h2 (Nat.le_refl _);have hll:l<=hh:=lV h3 (Nat.zero_le _);have hb:=iZ (P:=P) (m:=m) (b:=true) (len:=len) (cap:=(m id).cap-k) (c0:=0) (mm:=(m id).cap-k) (lo:=lo) (hi:=hi) (mx:=none) (λ_=>rfl) (λv e=>by cases e) (.inl rfl) ⟨len,h2,by omega⟩ h3 w;simp only[Option.map_none]at hb;simp only[pz]at h;by_cases hl0:l=0
      . rw[gb hl0,cond_true,Option.some.injEq]at h;subst h hl0;refine⟨?_,λi hi=>?_⟩
        . simp only[Instr.sliceAt,Sem.run_bind,bc hT (fq he) w,Result.andThen_ok,aj,jA,Instr.slice,hb,ek hT hs w,Sem.run_pure,Nat.zero_mul,Option.map_none,Option.map_some,gU,Nat.add_zero,ite_self,Nat.sub_zero]
        . simp only[aD,List.mem_singleton,fj]at hi;subst hi;exact⟨hd,by simp only;omega⟩
      . rw[g7 hl0,cond_false,aA,aS,Option.some.injEq]at h;obtain⟨hlt,rfl⟩:=h;refine⟨?_,λi hi=>?_⟩
        . have hne:¬((m id).cap-k=l):=by omega
          simp only[Instr.sliceAt,Sem.run_bind,bc hT (fq he) w,Result.andThen_ok,aj,jA,Instr.slice,hb,ek hT hs w,Sem.run_pure,Option.map_none,Option.map_some,gU,if_neg hne];rw[Nat.sub_sub,Nat.add_assoc]
        . simp only[aD,List.mem_singleton,fj]at hi;subst hi;exact⟨hd,by simp only;omega⟩
    | some mv=>
      simp only[n9,na,aA,ai,Option.some.injEq]at h;obtain⟨hm,mm,h1,hh,h2,l,h3,rfl⟩:=h;refine⟨?_,oz hd⟩;have hb:=iZ (P:=P) (m:=m) (b:=true) (len:=len) (cap:=(m id).cap-k) (c0:=len) (mm:=mm) (lo:=lo) (hi:=hi) (mx:=some mv) (λe=>by cases e) (λv e=>by cases e;exact⟨h1,by omega⟩) (.inr hm) ⟨mm,h2,Nat.le_refl _⟩ h3 w;simp only[Instr.sliceAt,Sem.run_bind,bc hT (fq he) w,Result.andThen_ok,aj,jA,Instr.slice,hb,ek hT hs w,Sem.run_pure,ld];split<;>rfl
theorem y8{s:TypeId}{f:Nat}{v:AV}(hx:db D m x)(h:qk T s f x=some v)(w:World):(Instr.fieldAt s (aj m x) f).run P w=.ok (aj m v) w/\db D m v:=by
 simp only[qk,tY,ai,aA,Option.some.injEq,aS]at h;obtain⟨fs,hs,q,⟨fd,hf,n,hn,rfl⟩,hp,h⟩:=h;cases x<;>simp only[Le,reduceCtorEq,Option.some.injEq]at h;rename_i id off;subst h;have hd:D id:=(hx (id,0) (by simp[aD])).1;have hne:¬n=0:=by simp only at hp;omega
 refine⟨?_,λi hi=>by simp only[aD,List.mem_singleton]at hi;subst hi;exact⟨hd,Nat.zero_le _⟩⟩;simp[Instr.fieldAt,bc hT (yf hs) w,hf,aj,Instr.sureAddr,fieldPlace,ek hT hn w,hne,gU,Nat.add_assoc]
theorem H5{s:TypeId}{f:Nat}{v:AV}(hx:db D m x)(h:DX T s f x=some v)(w:World):(Instr.field s (aj m x) f).run P w=.ok (aj m v) w/\db D m v:=by
 cases x<;>simp only[DX,reduceCtorEq,ai]at h;obtain⟨fs,hs,fd,hf,h⟩:=h;refine⟨?_,Dd hT h (iJ.1 hx)⟩;simp[Instr.field,bc hT (yf hs) w,hf,aj,asAgg,kg hT h w]
theorem zc{t:TypeId}{i:Nat}{v:AV}(hx:db D m x)(h:ky T t i x=some v)(w:World):(Instr.indexAt t (aj m x) (.int k i)).run P w=.ok (aj m v) w/\db D m v:=by
 cases x<;>simp only[ky,reduceCtorEq,ai,aA,Option.some.injEq,aS]at h
 . rename_i id off;obtain⟨⟨n,e⟩,ha,hi,sz,hs,rfl⟩:=h;have hd:D id:=(hx (id,0) (by simp[aD])).1;refine⟨?_,λj hj=>by simp only[aD,List.mem_singleton]at hj;subst hj;exact⟨hd,Nat.zero_le _⟩⟩;have hi':i<n:=hi;simp[Instr.indexAt,asIntOf,bc hT (Av ha) w,aj,Instr.sureAddr,ek hT hs w,gU,Nat.add_assoc,hi']
 . rename_i id off len c;obtain⟨e,ha,hi,sz,hs,rfl⟩:=h;have hd:D id:=(hx (id,fj len c) (by simp[aD])).1;refine⟨?_,λj hj=>by simp only[aD,List.mem_singleton]at hj;subst hj;exact⟨hd,Nat.zero_le _⟩⟩;simp[Instr.indexAt,asIntOf,bc hT (fq ha) w,aj,ek hT hs w,gU,Nat.add_assoc,hi]
theorem GS{t:TypeId}{i:Nat}{v:AV}(hx:db D m x)(h:wU T t i x=some v)(w:World):(Instr.index t (aj m x) (.int k i)).run P w=.ok (aj m v) w/\db D m v:=by
 cases x<;>simp only[wU,reduceCtorEq,ai,aA,Option.some.injEq,aS]at h
 . rename_i s;obtain⟨ht,b,hb,rfl⟩:=h;refine⟨?_,bQ (by simp[jt,aD])⟩;have hlt:=(List.getElem?_eq_some_iff.1 hb).1;have hs:(ByteArray.mk ⟨s⟩)[i]? = some b:=by
    rw[ByteArray.getElem?_lt' _ _ (by exact hlt)];exact congrArg some (List.getElem?_eq_some_iff.1 hb).2
   simp[Instr.index,asIntOf,bc hT (vP ht) w,aj,jt,hs]
 . rename_i cs;obtain⟨⟨n,e⟩,ha,hi,sz,hs,h⟩:=h;refine⟨?_,Dd hT h (iJ.1 hx)⟩;try simp only at hi h hs
   simp[Instr.index,asIntOf,bc hT (Av ha) w,aj,ek hT hs w,hi,kg hT h w]
end
end Go.Ev
