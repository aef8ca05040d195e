import Derived.Laws.StructEq
import Derived.Laws.CopyRow
import Derived.Laws.Slices
import Derived.Test.YtafekjglclnegaaGreatDoorP04
set_option linter.all false
namespace Go.Ev
open Go Go.RowKit
theorem gi{a b:IntKind}:hU a b=true↔a=b:=by
 rw[hU,cK]
 cases a<;>cases b<;>simp[nB]
theorem lQ{a b:Int}:ab a b=true↔a<=b:=by
 cases a<;>cases b<;>simp only[ab]
 · simp_all
 · grind
 · grind
 · simp only[bt,Int.negSucc_eq];omega
theorem ly{a b:Int}:aa a b=true↔a=b:=by
 cases a<;>cases b<;>simp only[aa]
 · rw[cK];exact Int.ofNat_inj.symm
 · simp
 · simp
 · simp_all
theorem pI(a b:Int):aa a b=(a==b):=by
 rw[Bool.eq_iff_iff,ly,beq_iff_eq]
theorem eV(a b:Int):ab a b=decide (a<=b):=by
 rw[Bool.eq_iff_iff,lQ,decide_eq_true_iff]
theorem jk(k:IntKind)(n:Int):Ct k n=.int k n:=by
 cases n with
 | ofNat n=>cases n<;>rfl
 | negSucc n=>cases n<;>rfl
theorem fg(n:Nat):goInt n=.int .i64 n:=by cases n<;>rfl
theorem BM(k:IntKind)(n:Nat):CL k .ofNat n=.int k n:=by cases n<;>rfl
theorem xq(k:IntKind)(n:Int)(h1:bA k<=n)(h2:n<=bB k):k.wrap n=n:=by
 cases k<;>simp only[bA,bB]at h1 h2<;>simp[IntKind.wrap,IntKind.bits,IntKind.signed]<;>omega
theorem GU(k:IntKind)(n:Int):xx k n=k.wrap n:=by
 unfold xx
 cases h:ab (bA k) n&&ab n (bB k)with
 | true=>
   rw[Bool.and_eq_true,lQ,lQ]at h
   exact(xq k n h.1 h.2).symm
 | false=>rfl
theorem nz(k:IntKind)(n:Int):gJ k n=some (.int k (k.wrap n)):=by rw[gJ,jk,GU]
theorem qu{D:Nat->Prop}{m:Nat->bo}{k:IntKind}{n:Int}:cY D m (.int k n):=λi hi=>by simp[aq]at hi
theorem nw{D:Nat->Prop}{m:Nat->bo}{b:Bool}:cY D m (.bool b):=λi hi=>by simp[aq]at hi
theorem jZ(a b:Bool):aL a b=(a==b):=by cases a<;>cases b<;>rfl
theorem cF:∀a b:List UInt8,af a b=(a==b)
 | [],[]=>rfl
 | [],_::_=>rfl
 | _::_,[]=>rfl
 | a::x,b::y=>by
   rw[af,cF x y,List.cons_beq_cons]
   congr 1
   rw[Bool.eq_iff_iff,cK,beq_iff_eq]
   exact UInt8.toNat_inj
theorem sT:∀a b:List UInt8,nO a b=Op.bytesLess a b
 | [],[]=>rfl
 | [],_::_=>rfl
 | _::_,[]=>rfl
 | a::x,b::y=>by
   rw[nO,sT x y,Op.bytesLess]
   have e1:bm a.toNat b.toNat=decide (a<b):=by rw[Bool.eq_iff_iff,ba,decide_eq_true_iff];exact Iff.rfl
   have e2:Nat.beq a.toNat b.toNat=(a==b):=by rw[Bool.eq_iff_iff,cK,beq_iff_eq];exact UInt8.toNat_inj
   rw[e1,e2]
theorem j0(s:List UInt8):(ByteArray.mk ⟨s⟩).toList=s:=ByteArray.toList_mk s
section
variable{P:Program}{T:eA}(hT:eE P T)
include hT
theorem mI{n:Nat}{m:Nat->bo}(cmp:TypeId->AV->AV->Option Bool)(hc:∀t x y b,cmp t x y=some b->∀w,(Op.equalIn n t (aj m x) (aj m y)).run P w=.ok b w)(xs ys:List AV) :
 ∀(fs:List Field) (b:Bool),gU T cmp xs ys fs=some b->∀w,(Op.eqFields n (ar m xs).toArray (ar m ys).toArray fs).run P w=.ok b w
 | [],b,h,w=>by cases h;simp[Op.eqFields]
 | f::fs,b,h,w=>by
   simp only[gU,ay,ag,Bool.not_eq_true']at h
   obtain⟨h1,x,hx,y,hy,r,hr,h⟩:=h
   have hne:f.name ≠ "_" := by simpa using h1
   simp only[Op.eqFields,if_pos hne,Sem.run_bind,iO hT hx w,iO hT hy w,Result.andThen_ok,hc _ _ _ _ hr w]
   cases r with
   | true=>
     simp only[cond_true]at h
     simpa using mI cmp hc xs ys fs b h w
   | false=>
     simp_all
theorem oy{n sz:Nat}{m:Nat->bo}(elem:TypeId)(cmp:AV->AV->Option Bool)(hc:∀x y b,cmp x y=some b->∀w,(Op.equalIn n elem (aj m x) (aj m y)).run P w=.ok b w)(xs ys:List AV) :
 ∀(len i:Nat) (b:Bool),iP T cmp elem sz xs ys i len=some b->∀w,
  (forIn (List.range' i len) ((none,()):Option Bool×PUnit) (λj _=>do
    let a <-part elem (ar m xs).toArray (j*sz)
    let c <-part elem (ar m ys).toArray (j*sz)
    let r <-Op.equalIn n elem a c
    if(!r)=true then pure (ForInStep.done (some false,()))else pure (ForInStep.yield (none,())):Nat->Option Bool×PUnit->Sem (ForInStep (Option Bool×PUnit)))).run P w =
  .ok (if b then none else some false,()) w
 | 0,i,b,h,w=>by cases h;simp
 | len+1,i,b,h,w=>by
   simp only[iP,ag]at h
   obtain⟨x,hx,y,hy,r,hr,h⟩:=h
   simp only[List.range'_succ,List.forIn_cons,Sem.run_bind,iO hT hx w,iO hT hy w,Result.andThen_ok,hc _ _ _ hr w]
   cases r with
   | true=>
     simp only[cond_true]at h
     simpa using oy elem cmp hc xs ys len (i+1) b h w
   | false=>
     simp_all
theorem xN{n len sz:Nat}{t elem:TypeId}{m:Nat->bo}(ht:T.und t=some (.array len elem))(hs:fx T elem=some sz)(cmp:AV->AV->Option Bool)(hc:∀x y b,cmp x y=some b->∀w,(Op.equalIn n elem (aj m x) (aj m y)).run P w=.ok b w)
 (xs ys:List AV) (b:Bool) (h:iP T cmp elem sz xs ys 0 len=some b) (w:World):(Op.equalIn (n+1) t (.agg (ar m xs).toArray) (.agg (ar m ys).toArray)).run P w=.ok b w:=by
 simp only[Op.equalIn,Sem.run_bind,bb hT ht w,Result.andThen_ok,dU hT hs w]
 have:=oy hT elem cmp hc xs ys len 0 b h w
 rw[Std.Legacy.Range.forIn_eq_forIn_range']
 simp only[Std.Legacy.Range.size,Nat.sub_zero,Nat.add_sub_cancel,Nat.div_one]
 rw[this]
 cases b<;>simp
theorem wd{n:Nat}{t:TypeId}{fs:Array Field}{m:Nat->bo}(ht:T.und t=some (.struct fs))(hs:P.stoodInHeld t=false)(cmp:TypeId->AV->AV->Option Bool)(hc:∀t x y b,cmp t x y=some b->∀w,(Op.equalIn n t (aj m x) (aj m y)).run P w=.ok b w)
 (xs ys:List AV) (b:Bool) (h:gU T cmp xs ys fs.toList=some b) (w:World):(Op.equalIn (n+1) t (.agg (ar m xs).toArray) (.agg (ar m ys).toArray)).run P w=.ok b w:=by
 have hu:=ia hT ht
 have hf:P.fieldsOf t=fs:=by simp[Program.fieldsOf,hu]
 rw[run_equalIn_struct w n t _ _ (by rw[hf];exact hu) hs,hf]
 exact mI hT cmp hc xs ys fs.toList b h w
theorem vA{n:Nat}{t:TypeId}{x y:AV}{b:Bool}{m:Nat->bo}(h:yr (T.und t) x y=some b)(w:World):(Op.equalIn (n+1) t (aj m x) (aj m y)).run P w=.ok b w:=by
 simp only[yr,ay,Option.some.injEq,Bool.and_eq_true,cK]at h
 obtain⟨⟨⟨h1,h2⟩,h3⟩,rfl⟩:=h
 cases hd:T.und t with
 | none=>rw[hd]at h1 h2;cases x<;>simp[xI,BP]at h1
 | some d=>
   rw[hd]at h1 h2
   have hr:=bb hT hd w
   cases d<;>simp only[BP]at h1 h2<;>cases x<;>simp only[xI]at h1<;>(first|(exfalso;revert h1;decide)|skip)<;>
    cases y<;>simp only[xI]at h2<;>(first|(exfalso;revert h2;decide)|skip)<;>(first|(simp[pE]at h3;done)|simp[Op.equalIn,hr,aj,pE])
theorem Hz{n:Nat}{m:Nat->bo}(cmp:TypeId->AV->AV->Option Bool)(hc:∀t x y b,cmp t x y=some b->∀w,(Op.equalIn n t (aj m x) (aj m y)).run P w=.ok b w)(t:TypeId)(x y:AV)(b:Bool)
 (h:G4 T cmp t x y=some b) (w:World):(Op.equalIn (n+1) t (aj m x) (aj m y)).run P w=.ok b w:=by
 cases x with
 | bool a=>
   cases y<;>simp only[G4,wq,ay,Option.some.injEq,reduceCtorEq]at h
   obtain⟨h1,rfl⟩:=h
   cases hd:T.und t with
   | none=>simp[hd,E6]at h1
   | some d=>cases d<;>simp[hd,E6]at h1;simp[Op.equalIn,bb hT hd w,aj,jZ]
 | int k a=>
   cases y<;>simp only[G4,Ad,ay,Option.some.injEq,reduceCtorEq,Bool.and_eq_true,gi]at h
   obtain⟨⟨h1,rfl⟩,rfl⟩:=h
   cases hd:T.und t with
   | none=>simp[NM,hd,MU]at h1
   | some d=>cases d<;>simp[NM,hd,MU]at h1;simp[Op.equalIn,bb hT hd w,aj,pI]
 | str a=>
   cases y<;>simp only[G4,zr,ay,Option.some.injEq,reduceCtorEq]at h
   obtain⟨h1,rfl⟩:=h
   cases hd:T.und t with
   | none=>simp[tt,hd,tB]at h1
   | some d=>
     cases d<;>simp[tt,hd,tB]at h1
     simp only[Op.equalIn,Sem.run_bind,bb hT hd w,aj,cF,Result.andThen_ok,beq_toListBytes,j0,Sem.run_pure]
 | agg xs=>
   cases y<;>simp only[G4,zN,reduceCtorEq]at h
   rename_i ys
   cases hd:T.und t with
   | none=>simp[hd,xi]at h
   | some d=>
     cases d<;>simp only[hd,xi,reduceCtorEq,ag]at h
     · obtain⟨sz,hs,h⟩:=h
       simp only[aj]
       exact xN hT hd hs _ (λx y b h w=>hc _ x y b h w) xs ys b h w
     · rename_i fields
       obtain⟨e,he,h⟩:=h
       simp only[ay,Bool.not_eq_true']at h
       have hst:=(hT.ty t e he).2.2.2
       have heu:e.u=.struct fields:=by
        have:=hd
        simp only[eA.und,he,ob,Option.some.injEq]at this
        exact this
       simp only[aj]
       exact wd hT hd (by rw[hst (by rw[heu];rfl)];exact h.1) cmp hc xs ys b h.2 w
 | iface a u=>
   cases y with
   | iface c v=>
     simp only[G4,lh,ay]at h
     obtain⟨h1,h⟩:=h
     cases hd:T.und t with
     | none=>simp[hd,Ar]at h1
     | some d=>
       cases d<;>simp[hd,Ar]at h1
       by_cases e:a=c
       · subst e
         rw[dI rfl,cond_true]at h
         simp only[ag,ay]at h
         obtain⟨i,hi,hcm,h⟩:=h
         simp[Op.equalIn,bb hT hd w,aj,lV hT hi w,hcm,hc _ _ _ _ h w]
       · rw[iH e,cond_false,Option.some.injEq]at h
         subst h
         simp[Op.equalIn,bb hT hd w,aj,e]
   | _=>exact vA hT (by simpa only[G4,lh]using h) w
 | _=>exact vA hT (by simpa only[G4]using h) w
theorem wu{m:Nat->bo}:∀(d:Nat) (t:TypeId) (x y:AV) (b:Bool),Ip T d t x y=some b->∀n,d<=n->∀w,(Op.equalIn n t (aj m x) (aj m y)).run P w=.ok b w
 | 0,_,_,_,_,h,_,_,_=>by cases h
 | d+1,t,x,y,b,h,n,hn,w=>by
   obtain⟨n,rfl⟩:∃k,n=k+1:=⟨n-1,by omega⟩
   exact Hz hT (Ip T d) (λt x y b h w=>wu d t x y b h n (by omega) w) t x y b h w
end
section
variable{P:Program}{T:eA}(hT:eE P T)
theorem YG(a b:Int):decide (a<b)=!decide (b<=a):=by rw[<-decide_not,decide_eq_decide];omega
theorem Gm{op:BinOp}{t:TypeId}{k:IntKind}{a:Int}{y v:AV}{m:Nat->bo}(h:Gp op k a y=some v)(w:World) :
 (binOp op t (.int k a) (aj m y)).run P w=.ok (aj m v) w/\aq v=[]:=by
 cases y<;>simp only[Gp,reduceCtorEq]at h
 rename_i k' b
 cases hs:mj op with
 | true=>
   simp only[hs,cond_true,zu,ay,lQ]at h
   obtain⟨h0,h⟩:=h
   have hb:¬b<0:=by omega
   cases op<;>simp[mj]at hs
   · simp only[nz,Option.some.injEq]at h
     subst h
     simp[aj,binOp,Op.shift,hb,w8,aq]
   · simp only[jk,Option.some.injEq]at h
     subst h
     simp[aj,binOp,Op.shift,hb,w8,aq]
 | false=>
   simp only[hs,cond_false,ay,gi]at h
   obtain⟨rfl,h⟩:=h
   cases op<;>simp[mj]at hs
   all_goals simp only[wH,Rg,Pa,Sm,Mh,MC,P9,XN,IL,BH,LA,Lj,MH,Mw,MO,Lv,yg,nz,jk,ay,Option.some.injEq,Bool.not_eq_true',pI,eV,reduceCtorEq]at h
   all_goals first
    | (obtain⟨h0,h⟩:=h;subst h;have h0':¬b=0:=by simpa using h0
       simp[aj,binOp,Op.intDiv,h0',aq];done)
    | (subst h;simp[aj,binOp,Op.intArith,Op.intBits,Op.intCmp,aq];done)
    | (subst h;simp[aj,binOp,Op.intArith,Op.intBits,Op.intCmp,aq];rfl)
    | (subst h;simp[aj,binOp,Op.intCmp,aq];exact YG _ _)
theorem Dv{op:BinOp}{t:TypeId}{a:List UInt8}{y v:AV}{m:Nat->bo}(h:GE op a y=some v)(w:World) :
 (binOp op t (.string ⟨⟨a⟩⟩) (aj m y)).run P w=.ok (aj m v) w/\aq v=[]:=by
 cases y<;>simp only[GE,reduceCtorEq]at h
 rename_i b
 cases op<;>simp only[MQ,ay,Option.some.injEq,reduceCtorEq,bt]at h
 case add=>
  obtain⟨hl,rfl⟩:=h
  have hn:¬(((ByteArray.mk ⟨a⟩).size+(ByteArray.mk ⟨b⟩).size:Nat):Int) > IntKind.i64.max:=by
   simp only[ByteArray.size,List.size_toArray,IntKind.max,IntKind.bits,IntKind.signed,if_true];omega
  refine⟨?_,by simp[aq]⟩
  simp only[aj,binOp,Op.stringOp]
  rw[if_neg hn]
  have:(ByteArray.mk ⟨a⟩)++(ByteArray.mk ⟨b⟩)=ByteArray.mk ⟨a++b⟩:=by
   apply ByteArray.ext
   rw[ByteArray.data_append]
   simp
  simp[this]
 all_goals
  subst h
  refine⟨?_,by simp[aq]⟩
  simp only[aj,binOp,Op.stringOp,j0,cF,sT]
  simp
theorem lW{T:eA}{t:TypeId}{xo yo:Operand}{x y:AV}(h:ip T t xo yo x y=true):lu x=true/\lu y=true:=by
 unfold ip at h
 rw[Bool.and_eq_true,Bool.and_eq_true]at h
 exact⟨h.1,h.2.1⟩
def sd:AV->Bool
 | .int _ _|.str _|.any _=>false
 | _=>true
theorem zz{t:TypeId}{x y:AV}{m:Nat->bo}(h:sd x=true)(hy:lu y=true):binOp .eql t (aj m x) (aj m y)=(do pure (.bool (<-Op.equal t (aj m x) (aj m y)))):=by
 cases x<;>simp[sd]at h<;>cases y<;>first|rfl|cases hy
theorem zq{t:TypeId}{x y:AV}{m:Nat->bo}(h:sd x=true)(hy:lu y=true):binOp .neq t (aj m x) (aj m y)=(do pure (.bool (!(<-Op.equal t (aj m x) (aj m y))))):=by
 cases x<;>simp[sd]at h<;>cases y<;>first|rfl|cases hy
theorem h_{op:BinOp}{t:TypeId}{xo yo:Operand}{X Y:Value}(h1:¬(X=.nilIface/\Y=.nilIface))(h2:¬(∃a b,X=.agg a/\Y=.agg b))(w:World):(eqGuard op t xo yo X Y).run P w=.ok () w:=by
 unfold eqGuard
 cases X<;>cases Y<;>first|(exact absurd ⟨rfl,rfl⟩ h1)|(exact absurd ⟨_,_,rfl,rfl⟩ h2)|(cases op<;>simp)
include hT
theorem vC{op:BinOp}{t:TypeId}{xo yo:Operand}{x y:AV}{m:Nat->bo}(h:ip T t xo yo x y=true)(w:World):(eqGuard op t xo yo (aj m x) (aj m y)).run P w=.ok () w:=by
 obtain⟨hx,hy⟩:=lW h
 cases x with
 | any v=>cases hx
 | agg xs=>
   cases y with
   | any v=>cases hy
   | agg ys=>
     simp only[ip,lu,Bool.true_and]at h
     cases he:T.ty.get t with
     | none=>simp[he,ob]at h
     | some e=>
       simp only[he,ob,Option.getD_some,Bool.and_eq_true,Bool.not_eq_true']at h
       have:=(hT.ty t e he).2.2.1 h.1
       simp only[aj]
       exact run_eqGuard_agg w op t xo yo _ _ (this.trans h.2)
   | _=>exact h_ (by simp[aj]) (by simp[aj]) w
 | niliface=>
   cases y with
   | any v=>cases hy
   | niliface=>
     simp only[ip,lu,Bool.true_and,Bool.or_eq_true]at h
     simp only[aj]
     rcases h with h|h
     · cases xo<;>simp[nU]at h
       cases op<;>simp[eqGuard]
     · cases yo<;>simp[nU]at h
       cases xo<;>cases op<;>simp[eqGuard]
   | _=>exact h_ (by simp[aj]) (by simp[aj]) w
 | _=>exact h_ (by simp[aj]) (by simp[aj]) w
theorem E5{op:BinOp}{t:TypeId}{xo yo:Operand}{x y v:AV}{m:Nat->bo}(h:EF T op t xo yo x y=some v)(w:World) :
 (do eqGuard op t xo yo (aj m x) (aj m y);binOp op t (aj m x) (aj m y):Sem Value).run P w=.ok (aj m v) w/\aq v=[]:=by
 have key:sd x=true->yq op (ok (ip T t xo yo x y) (Ip T 100 t x y))=some v->(do eqGuard op t xo yo (aj m x) (aj m y);binOp op t (aj m x) (aj m y):Sem Value).run P w=.ok (aj m v) w/\aq v=[]:=by
  intro hb h
  cases op<;>simp only[yq,ag,ay,Option.some.injEq,reduceCtorEq]at h
  · obtain⟨b,⟨hg,he⟩,rfl⟩:=h
    refine⟨?_,by simp[aq]⟩
    rw[Sem.run_bind,vC hT hg w,Result.andThen_ok,zz hb (lW hg).2]
    simp[Op.equal,Op.maxDepth,wu hT 100 t x y b he 10000 (by omega) w,aj]
  · obtain⟨b,⟨hg,he⟩,rfl⟩:=h
    refine⟨?_,by simp[aq]⟩
    rw[Sem.run_bind,vC hT hg w,Result.andThen_ok,zq hb (lW hg).2]
    simp[Op.equal,Op.maxDepth,wu hT 100 t x y b he 10000 (by omega) w,aj]
 cases x with
 | int k a=>
   obtain⟨h1,h2⟩:=Gm (P:=P) (t:=t) (m:=m) h w
   refine⟨?_,h2⟩
   rw[Sem.run_bind,h_ (by simp[aj]) (by simp[aj]) w]
   simpa [aj]using h1
 | str a=>
   obtain⟨h1,h2⟩:=Dv (P:=P) (t:=t) (m:=m) h w
   refine⟨?_,h2⟩
   rw[Sem.run_bind,h_ (by simp[aj]) (by simp[aj]) w]
   simpa [aj]using h1
 | any a=>
   exfalso
   have hg:ip T t xo yo (.any a) y=false:=by
    cases hg:ip T t xo yo (.any a) y with
    | false=>rfl
    | true=>cases(lW hg).1
   simp only[EF,hg,ok,cond_false]at h
   cases op<;>simp[yq,ob]at h
 | _=>exact key rfl h
omit hT in
theorem He{op:UnOp}{x v:AV}{m:Nat->bo}(h:Th op x=some v)(w:World):(Op.unary op (aj m x)).run P w=.ok (aj m v) w/\aq v=[]:=by
 cases x<;>simp only[Th,reduceCtorEq]at h
 · cases op<;>simp at h
   subst h
   simp[aj,Op.unary,aq]
 · cases op<;>simp only[nz,IL,Option.some.injEq,reduceCtorEq]at h
   · subst h
     simp[aj,Op.unary,Op.intArith,aq]
     exact congrArg _ (Int.zero_sub _).symm
   · subst h
     simp[aj,Op.unary,Op.intBits,aq]
end
theorem qX:∀{cs vs r:List AV},qf cs vs=some r->r=vs++cs.drop vs.length/\vs.length<=cs.length
 | cs,[],r,h=>by cases cs<;>(simp only[qf,Option.some.injEq]at h;subst h;simp)
 | [],_::_,r,h=>by cases h
 | c::cs,v::vs,r,h=>by
   simp only[qf,ag,Option.some.injEq]at h
   obtain⟨r',hr,rfl⟩:=h
   obtain⟨rfl,hl⟩:=qX hr
   simp;exact hl
theorem gX:∀{cs:List AV} {off:Nat} {vs r:List AV},rS cs off vs=some r->r=cs.take off++vs++cs.drop (off+vs.length)/\off+vs.length<=cs.length
 | cs,0,vs,r,h=>by
   have h':qf cs vs=some r:=by cases cs<;>exact h
   obtain⟨rfl,hl⟩:=qX h'
   simp;exact hl
 | [],n+1,vs,r,h=>by cases h
 | c::cs,n+1,vs,r,h=>by
   simp only[rS,ag,Option.some.injEq]at h
   obtain⟨r',hr,rfl⟩:=h
   obtain⟨rfl,hl⟩:=gX hr
   rw[show n+1+vs.length=(n+vs.length)+1 by omega]
   simp;omega
theorem B5{m:Nat->bo}{cs vs r:List AV}{off:Nat}(h:rS cs off vs=some r):ar m r=(ar m cs).take off++ar m vs++(ar m cs).drop (off+(ar m vs).length):=by
 obtain⟨rfl,_⟩:=gX h
 simp[eB]
theorem Bp{D:Nat->Prop}{m:Nat->bo}{cs vs r:List AV}{off:Nat}(h:rS cs off vs=some r)(hc:eI D m cs)(hv:eI D m vs):eI D m r:=by
 obtain⟨rfl,_⟩:=gX h
 rw[dy]at hc hv ⊢
 intro v hm
 simp only[List.mem_append]at hm
 rcases hm with(hm|hm)|hm
 · grind
 · grind
 · grind
theorem Dh{cs vs r:List AV}{off:Nat}(h:rS cs off vs=some r)(i:Nat):r[i]? = if off<=i/\i<off+vs.length then vs[i-off]? else cs[i]? := by
 obtain⟨rfl,hl⟩:=gX h
 rw[List.append_assoc,List.getElem?_append,List.length_take,Nat.min_eq_left (by omega)]
 by_cases h1:i<off
 · grind
 · grind
theorem y7:∀(vs:List Value) (j off:Nat) (A:Array Value),off+j+vs.length<=A.size->
 ((vs.zipIdx j).foldl (λcs p=>cs.setIfInBounds (off+p.2) p.1) A).toList=A.toList.take (off+j)++vs++A.toList.drop (off+j+vs.length)
 | [],j,off,A,h=>by simp
 | v::vs,j,off,A,h=>by
   simp only[List.length_cons]at h
   rw[List.zipIdx_cons,List.foldl_cons,y7 vs (j+1) off _ (by simp;omega)]
   have e:=list_seg_step A.toList (off+j) v vs (by simp;omega)
   simpa [Array.toList_setIfInBounds,Nat.add_assoc]using e
theorem mi{m:Nat->bo}{place:Nat->Option (Nat×Nat)}:∀{ps:List (Nat×AV)} {cells r:List AV},qi place cells ps=some r->
 Instr.fill place (ar m cells).toArray (ps.map λp=>(p.1,aj m p.2))=some (ar m r).toArray
 | [],cells,r,h=>by cases h;simp[Instr.fill]
 | p::ps,cells,r,h=>by
   simp only[qi,ag,ay,cK]at h
   obtain⟨q,hq,hl,r',hr,h⟩:=h
   have hlen:=(gX hr).2
   simp only[List.map_cons,Instr.fill,hq,eJ]
   have h1:¬((ar m (bP p.2)).toArray.size≠q.2):=by simp[bZ,hl]
   have h2:¬(q.1+(ar m (bP p.2)).toArray.size > (ar m cells).toArray.size):=by simp[bZ];omega
   have hf:=y7 (ar m (bP p.2)) 0 q.1 (ar m cells).toArray (by simp[bZ];omega)
   have ih:=mi (m:=m) h
   have e:(ar m (bP p.2)).toArray.zipIdx.foldl (λcs (x:Value×Nat)=>cs.setIfInBounds (q.1+x.2) x.1) (ar m cells).toArray=(ar m r').toArray:=by
    apply Array.toList_inj.1
    rw[<-Array.foldl_toList,Array.toList_zipIdx,hf,B5 hr]
    simp
   simp only[h1,h2,decide_false,Bool.or_self,Bool.false_eq_true,if_false]
   rw[<-ih]
   congr 1
theorem oM{D:Nat->Prop}{m:Nat->bo}{place:Nat->Option (Nat×Nat)}:∀{ps:List (Nat×AV)} {cells r:List AV},qi place cells ps=some r->eI D m cells->(∀p∈ps,cY D m p.2)->eI D m r
 | [],cells,r,h,hc,_=>by cases h;exact hc
 | p::ps,cells,r,h,hc,hp=>by
   simp only[qi,ag,ay]at h
   obtain⟨q,hq,hl,r',hr,h⟩:=h
   exact oM h (Bp hr hc (lE (hp p (by simp)))) (λp hm=>hp p (by simp[hm]))
theorem pY(w:World)(g:Nat)(cs:Array Value):(w.setRow g cs).heap.size=w.heap.size:=by simp[World.setRow]
theorem nj{P:Program}{cfg:cx}{D:Nat->Prop}{m:Nat->bo}{C:bg}{o o':aC}{w:World}(h:dQ cfg D m C o w){id off:Nat}{vs:List AV}(hd:D id)(hv:eI D m vs)(h1:eF vs=true)(hw:js C o id off vs=some o') :
 ∃w',(storeCells ⟨(m id).blk,(m id).base+off,none⟩ (ar m vs) 0).run P w=.ok () w'/\dk cfg C D m o w D m o' w':=by
 simp only[js,ag,Option.some.injEq]at hw
 obtain⟨x,hx,x',hx',rfl⟩:=hw
 cases x<;>simp only[wD,reduceCtorEq]at hx'
 rename_i cs rw g
 cases rw<;>simp only[reduceCtorEq,ag,Option.some.injEq]at hx'
 obtain⟨cs',hl,rfl⟩:=hx'
 have hob:=h.obj id hd
 rw[e7 hx]at hob
 obtain⟨c,e,fz,hb,hr⟩:=hob
 obtain rfl:=hr.free rfl
 have hokc:eI D m cs':=Bp hl hr.okc hv
 by_cases hnil:vs=[]
 · subst hnil
   have:cs'=cs:=by
    obtain⟨rfl,_⟩:=gX hl
    simp
   subst this
   refine⟨w,rfl,dk.put h hd hx rfl (Nat.le_refl _) (λ_ _=>rfl) ⟨c,e,(0,0),hb,hr⟩ rfl rfl rfl⟩
 · have hlen:=(gX hl).2
   have hpos:0<vs.length:=List.length_pos_iff.2 hnil
   have hfit:(m id).base+off+vs.length<=c.size:=by
    have hi:off+vs.length-1<cs.length:=by omega
    have:=hr.at' (off+vs.length-1) _ (List.getElem?_eq_getElem hi)
    have:=(Array.getElem?_eq_some_iff.1 this).1
    omega
   have hst:=run_storeCells_at P (m id).blk ((m id).base+off) e (ar m vs) 0 c w hb (by rw[bZ];omega) (λv hvm=>by
    rw[eB]at hvm
    obtain⟨u,hu,rfl⟩:=List.mem_map.1 hvm
    exact vI (nc.1 h1 u hu))
   refine⟨_,hst,dk.put h hd hx rfl (Nat.le_of_eq (pY _ _ _).symm) (λk hk=>setRow_other _ _ _ _ hk) ?_ rfl rfl rfl⟩
   refine⟨_,e,(0,0),setRow_heap w _ c _ e _ hb,⟨λi v hi=>?_,hokc,λ_=>rfl,λs hs=>?_⟩⟩
   · rw[Dh hl]at hi
     simp only[Nat.add_zero,List.getElem?_toArray]
     rw[List.append_assoc,List.getElem?_append,List.length_take,Array.length_toList,Nat.min_eq_left (by omega)]
     by_cases hc1:off<=i/\i<off+vs.length
     · rw[if_pos hc1]at hi
       rw[if_neg (by omega),List.getElem?_append,if_pos (by rw[bZ];omega),show(m id).base+i-((m id).base+off)=i-off by omega,eS,hi];rfl
     · rw[if_neg hc1]at hi
       have hci:=hr.at' i v hi
       by_cases hc2:i<off
       · grind
       · rw[if_neg (by omega),List.getElem?_append,if_neg (by rw[bZ];omega),List.getElem?_drop,bZ,Array.getElem?_toList]
         rw[<-hci];congr 1;omega
   · obtain⟨a1,a2,a3⟩:=hr.grow s hs
     refine⟨a1,a2,?_⟩
     simp only[Nat.add_zero,List.size_toArray,List.length_append,List.length_take,List.length_drop,Array.length_toList,bZ]
     rw[<-a3];omega
section
variable{P:Program}{T:eA}(hT:eE P T)
include hT
theorem Aq{cfg:cx}{D:Nat->Prop}{m:Nat->bo}{C:bg}{o o':aC}{w:World}(h:dQ cfg D m C o w){t:TypeId}{p v:AV}(hp:cY D m p)(hv:cY D m v)(hs:rV T C o t v p=some o') :
 ∃w',(Instr.storeAt t (aj m p) (aj m v)).run P w=.ok () w'/\dk cfg C D m o w D m o' w':=by
 cases p<;>simp only[rV,reduceCtorEq,ag,ay,Bool.and_eq_true,cK]at hs
 rename_i id off
 obtain⟨n,hn,⟨hl,h1⟩,hw⟩:=hs
 have hd:D id:=(hp (id,0) (by simp[aq])).1
 obtain⟨w',hr,he⟩:=nj (P:=P) h hd (lE hv) h1 hw
 refine⟨w',?_,he⟩
 have hsz:(aj m v).cells.size=n:=by rw[eJ];simp[bZ,hl]
 simp only[Instr.storeAt,aj,Instr.sureAddr,storeVar,Sem.run_bind,Sem.run_pure,Result.andThen_ok,dU hT hn w,hsz]
 simp only[ne_eq,not_true,if_false,eJ,Sem.run_bind]
 simpa using hr
end
theorem lL{hi n:Nat}{v:AV}(h:tE hi v=some n):∃k,v=.int k (.ofNat n)/\n<=hi:=by
 unfold tE at h
 split at h
 · simp only[ay,Option.some.injEq,bt]at h
   obtain⟨h1,rfl⟩:=h
   exact⟨_,rfl,h1⟩
 · cases h
theorem fm{P:Program}{m:Nat->bo}{most n:Nat}{v:AV}{y:Nat}{code:BoundsCode}(h:tE most v=some n)(hy:most<=y)(w:World):(Instr.sliceBound (aj m v) y code).run P w=.ok n w:=by
 obtain⟨k,rfl,hn⟩:=lL h
 simp only[aj]
 rw[run_sliceBound w k _ y code (by simp) (by simp;omega)]
 simp
theorem gV{P:Program}{m:Nat->bo}{b:Bool}{len cap c0 mm h l:Nat}{lo hi mx:Option AV}(hc:mx=none->mm=cap)(hc':∀v,mx=some v->tE c0 v=some mm/\c0<=cap)
 (hm:mx=none\/hi.isSome=true) (hh:∃t,dK t len hi=some h/\t<=mm) (hl:dK h 0 lo=some l) (w:World) :
 (Instr.sliceBounds b len cap (lo.map (aj m)) (hi.map (aj m)) (mx.map (aj m))).run P w=.ok (l,h,mm) w:=by
 obtain⟨t,hh,ht⟩:=hh
 unfold Instr.sliceBounds
 cases mx with
 | none=>
   obtain rfl:=hc rfl
   cases hi with
   | none=>
     simp only[dK,Option.some.injEq]at hh
     subst hh
     cases lo with
     | none=>simp only[dK,Option.some.injEq]at hl;subst hl;simp
     | some lv=>simp only[dK]at hl;simp[fm hl (Nat.le_refl _) w]
   | some hv=>
     simp only[dK]at hh
     cases lo with
     | none=>simp only[dK,Option.some.injEq]at hl;subst hl;simp[fm hh ht w]
     | some lv=>simp only[dK]at hl;simp[fm hh ht w,fm hl (Nat.le_refl _) w]
 | some mv=>
   obtain⟨h1,h2⟩:=hc' mv rfl
   cases hi with
   | none=>simp at hm
   | some hv=>
     simp only[dK]at hh
     cases lo with
     | none=>simp only[dK,Option.some.injEq]at hl;subst hl;simp[fm h1 h2 w,fm hh ht w]
     | some lv=>simp only[dK]at hl;simp[fm h1 h2 w,fm hh ht w,fm hl (Nat.le_refl _) w]
theorem jK{t d h:Nat}{v:Option AV}(hb:dK t d v=some h)(hd:d<=t):h<=t:=by
 cases v with
 | none=>cases hb;exact hd
 | some v=>obtain⟨_,_,h⟩:=lL hb;exact h
theorem jq{m:Nat->bo}(id off size mm h l:Nat) :
 aj m (hN id off size mm h l)=.slice (if mm=l then some ⟨(m id).blk,(m id).base+off,none⟩else some ((⟨(m id).blk,(m id).base+off,none⟩:Addr).add (l*size))) (h-l) (mm-l):=by
 unfold hN
 by_cases e:mm=l
 · rw[dI e,cond_true,if_pos e];simp[aj,gI]
 · rw[iH e,cond_false,if_neg e,fJ];simp[aj,gI,Nat.add_assoc]
theorem kR{D:Nat->Prop}{m:Nat->bo}{id off size mm h l:Nat}(hd:D id):cY D m (hN id off size mm h l):=by
 unfold hN
 cases Nat.beq mm l<;>(intro i hi;simp only[cond_true,cond_false,aq,List.mem_singleton,d6]at hi;subst hi;exact⟨hd,Nat.zero_le _⟩)
theorem wz{T:eA}{t n e:Nat}(h:yp T t=some (n,e)):T.und t=some (.array n e):=by
 unfold yp at h
 cases hu:T.und t with
 | none=>simp[hu,MT]at h
 | some d=>cases d<;>simp[hu,MT]at h;simp[h]
theorem ex{T:eA}{t e:Nat}(h:iU T t=some e):T.und t=some (.slice e):=by
 unfold iU at h
 cases hu:T.und t with
 | none=>simp[hu,za]at h
 | some d=>cases d<;>simp[hu,za]at h;simp[h]
theorem qG{T:eA}{t:Nat}(h:tt T t=true):T.und t=some .string:=by
 unfold tt at h
 cases hu:T.und t with
 | none=>simp[hu,tB]at h
 | some d=>cases d<;>simp[hu,tB]at h;rfl
theorem rK{T:eA}{t:Nat}{fs:Array Field}(h:qx T t=some fs):T.und t=some (.struct fs):=by
 unfold qx at h
 cases hu:T.und t with
 | none=>simp[hu,kk]at h
 | some d=>cases d<;>simp[hu,kk]at h;simp[h]
section
variable{P:Program}{T:eA}(hT:eE P T)
include hT
theorem xt{D:Nat->Prop}{m:Nat->bo}{t:TypeId}{x v:AV}{lo hi mx:Option AV}(hx:cY D m x)(h:nA T t lo hi mx x=some v)(w:World) :
 (Instr.sliceAt t (aj m x) (lo.map (aj m)) (hi.map (aj m)) (mx.map (aj m))).run P w=.ok (aj m v) w/\cY D m v:=by
 cases x<;>simp only[nA,reduceCtorEq,ag,ay]at h
 case ptr id off=>
  have hd:D id:=(hx (id,0) (by simp[aq])).1
  obtain⟨⟨n,e⟩,ha,size,hs,h⟩:=h
  simp only[gQ,ay,ag,Option.some.injEq,Bool.or_eq_true,Option.isNone_iff_eq_none]at h
  obtain⟨hm,mm,h1,hh,h2,l,h3,rfl⟩:=h
  refine⟨?_,kR hd⟩
  have hb:=gV (P:=P) (m:=m) (b:=false) (len:=n) (cap:=n) (c0:=n) (mm:=mm) (lo:=lo) (hi:=hi) (mx:=mx) (λe=>by subst e;cases h1;rfl) (λv e=>by subst e;exact⟨h1,Nat.le_refl _⟩) hm ⟨mm,h2,Nat.le_refl _⟩ h3 w
  simp only[Instr.sliceAt,Sem.run_bind,bb hT (wz ha) w,Result.andThen_ok,aj,Instr.sureAddr,Sem.run_pure,hb,dU hT hs w,jq]
  split<;>rfl
 case str s=>
  obtain⟨hst,h⟩:=h
  simp only[Bool.and_eq_true,Option.isNone_iff_eq_none]at hst
  obtain⟨hst,rfl⟩:=hst
  simp only[rR,ag,Option.some.injEq]at h
  obtain⟨hh,h2,l,h3,rfl⟩:=h
  refine⟨?_,bQ (by simp[aq])⟩
  have hsz:(ByteArray.mk ⟨s⟩).size=s.length:=rfl
  have hb:=gV (P:=P) (m:=m) (b:=false) (len:=s.length) (cap:=s.length) (c0:=0) (mm:=s.length) (lo:=lo) (hi:=hi) (mx:=none) (λ_=>rfl) (λv e=>by cases e) (.inl rfl) ⟨s.length,h2,Nat.le_refl _⟩ h3 w
  simp only[Option.map_none]at hb
  simp only[Instr.sliceAt,Sem.run_bind,bb hT (qG hst) w,Result.andThen_ok,aj,Instr.slice,Option.map_none,hsz,hb,Option.isSome_none,Bool.false_eq_true,if_false,Sem.run_pure]
  congr 2
  apply ByteArray.ext
  apply Array.toList_inj.1
  simp[ByteArray.data_extract,List.drop_take]
 case nilslice=>
  obtain⟨e,he,sz,hs,h⟩:=h
  simp only[rn,ay,ag,Option.some.injEq,Bool.or_eq_true,Option.isNone_iff_eq_none]at h
  obtain⟨hm,mm,h1,hh,h2,l,h3,rfl⟩:=h
  refine⟨?_,bQ (by simp[aq])⟩
  have hm0:mm=0:=Nat.le_zero.1 (jK h1 (Nat.le_refl _))
  have hh0:hh=0:=Nat.le_zero.1 (jK h2 (Nat.le_refl _))
  subst hm0 hh0
  have hl0:l=0:=Nat.le_zero.1 (jK h3 (Nat.le_refl _))
  subst hl0
  have hb:=gV (P:=P) (m:=m) (b:=true) (len:=0) (cap:=0) (c0:=0) (mm:=0) (lo:=lo) (hi:=hi) (mx:=mx) (λ_=>rfl) (λv e=>by subst e;exact⟨h1,Nat.le_refl _⟩) hm ⟨0,h2,Nat.le_refl _⟩ h3 w
  simp only[Instr.sliceAt,Sem.run_bind,bb hT (ex he) w,Result.andThen_ok,aj,Instr.slice,hb,dU hT hs w,Sem.run_pure,if_true,Nat.sub_zero]
 case slice id off len c=>
  have hd:D id:=(hx (id,d6 len c) (by simp[aq])).1
  have hneed:=(hx (id,d6 len c) (by simp[aq])).2
  obtain⟨e,he,size,hs,h⟩:=h
  cases c with
  | known c=>
    simp only[kY,gQ,ay,ag,Option.some.injEq,Bool.or_eq_true,Option.isNone_iff_eq_none]at h
    obtain⟨hm,mm,h1,hh,h2,l,h3,rfl⟩:=h
    refine⟨?_,kR hd⟩
    have hb:=gV (P:=P) (m:=m) (b:=true) (len:=len) (cap:=c) (c0:=c) (mm:=mm) (lo:=lo) (hi:=hi) (mx:=mx) (λe=>by subst e;cases h1;rfl) (λv e=>by subst e;exact⟨h1,Nat.le_refl _⟩) hm ⟨mm,h2,Nat.le_refl _⟩ h3 w
    simp only[Instr.sliceAt,Sem.run_bind,bb hT (ex he) w,Result.andThen_ok,aj,gI,Instr.slice,hb,dU hT hs w,Sem.run_pure,jq]
    split<;>rfl
  | rest k=>
    simp only[d6]at hneed
    cases mx with
    | none=>
      simp only[kY,pg,ag]at h
      obtain⟨hh,h2,l,h3,h⟩:=h
      have hhl:hh<=len:=jK h2 (Nat.le_refl _)
      have hll:l<=hh:=jK h3 (Nat.zero_le _)
      have hb:=gV (P:=P) (m:=m) (b:=true) (len:=len) (cap:=(m id).cap-k) (c0:=0) (mm:=(m id).cap-k) (lo:=lo) (hi:=hi) (mx:=none) (λ_=>rfl) (λv e=>by cases e) (.inl rfl) ⟨len,h2,by omega⟩ h3 w
      simp only[Option.map_none]at hb
      simp only[mc]at h
      by_cases hl0:l=0
      · rw[dI hl0,cond_true,Option.some.injEq]at h
        subst h hl0
        refine⟨?_,λi hi=>?_⟩
        · simp only[Instr.sliceAt,Sem.run_bind,bb hT (ex he) w,Result.andThen_ok,aj,gI,Instr.slice,hb,dU hT hs w,Sem.run_pure,Nat.zero_mul,Option.map_none,Option.map_some,fJ,Nat.add_zero,ite_self,Nat.sub_zero]
        · simp only[aq,List.mem_singleton,d6]at hi;subst hi;exact⟨hd,by simp only;omega⟩
      · rw[iH hl0,cond_false,ay,ba,Option.some.injEq]at h
        obtain⟨hlt,rfl⟩:=h
        refine⟨?_,λi hi=>?_⟩
        · have hne:¬((m id).cap-k=l):=by omega
          simp only[Instr.sliceAt,Sem.run_bind,bb hT (ex he) w,Result.andThen_ok,aj,gI,Instr.slice,hb,dU hT hs w,Sem.run_pure,Option.map_none,Option.map_some,fJ,if_neg hne]
          rw[Nat.sub_sub,Nat.add_assoc]
        · simp only[aq,List.mem_singleton,d6]at hi;subst hi;exact⟨hd,by simp only;omega⟩
    | some mv=>
      simp only[kY,j5,ay,ag,Option.some.injEq]at h
      obtain⟨hm,mm,h1,hh,h2,l,h3,rfl⟩:=h
      refine⟨?_,kR hd⟩
      have hb:=gV (P:=P) (m:=m) (b:=true) (len:=len) (cap:=(m id).cap-k) (c0:=len) (mm:=mm) (lo:=lo) (hi:=hi) (mx:=some mv) (λe=>by cases e) (λv e=>by cases e;exact⟨h1,by omega⟩) (.inr hm) ⟨mm,h2,Nat.le_refl _⟩ h3 w
      simp only[Instr.sliceAt,Sem.run_bind,bb hT (ex he) w,Result.andThen_ok,aj,gI,Instr.slice,hb,dU hT hs w,Sem.run_pure,jq]
      split<;>rfl
theorem tv{D:Nat->Prop}{m:Nat->bo}{s:TypeId}{f:Nat}{x v:AV}(hx:cY D m x)(h:m6 T s f x=some v)(w:World):(Instr.fieldAt s (aj m x) f).run P w=.ok (aj m v) w/\cY D m v:=by
 simp only[m6,qc,ag,ay,Option.some.injEq,ba]at h
 obtain⟨fs,hs,q,⟨fd,hf,n,hn,rfl⟩,hp,h⟩:=h
 cases x<;>simp only[E3,reduceCtorEq,Option.some.injEq]at h
 rename_i id off
 subst h
 have hd:D id:=(hx (id,0) (by simp[aq])).1
 have hne:¬n=0:=by simp only at hp;omega
 refine⟨?_,λi hi=>by simp only[aq,List.mem_singleton]at hi;subst hi;exact⟨hd,Nat.zero_le _⟩⟩
 simp[Instr.fieldAt,bb hT (rK hs) w,hf,aj,Instr.sureAddr,fieldPlace,dU hT hn w,hne,fJ,Nat.add_assoc]
theorem B9{D:Nat->Prop}{m:Nat->bo}{s:TypeId}{f:Nat}{x v:AV}(hx:cY D m x)(h:z_ T s f x=some v)(w:World):(Instr.field s (aj m x) f).run P w=.ok (aj m v) w/\cY D m v:=by
 cases x<;>simp only[z_,reduceCtorEq,ag]at h
 obtain⟨fs,hs,fd,hf,h⟩:=h
 refine⟨?_,xz hT h (gA.1 hx)⟩
 simp[Instr.field,bb hT (rK hs) w,hf,aj,asAgg,iO hT h w]
theorem ti{D:Nat->Prop}{m:Nat->bo}{t:TypeId}{i:Nat}{k:IntKind}{x v:AV}(hx:cY D m x)(h:iV T t i x=some v)(w:World):(Instr.indexAt t (aj m x) (.int k i)).run P w=.ok (aj m v) w/\cY D m v:=by
 cases x<;>simp only[iV,reduceCtorEq,ag,ay,Option.some.injEq,ba]at h
 · rename_i id off
   obtain⟨⟨n,e⟩,ha,hi,sz,hs,rfl⟩:=h
   have hd:D id:=(hx (id,0) (by simp[aq])).1
   refine⟨?_,λj hj=>by simp only[aq,List.mem_singleton]at hj;subst hj;exact⟨hd,Nat.zero_le _⟩⟩
   have hi':i<n:=hi
   simp[Instr.indexAt,asIntOf,bb hT (wz ha) w,aj,Instr.sureAddr,dU hT hs w,fJ,Nat.add_assoc,hi']
 · rename_i id off len c
   obtain⟨e,ha,hi,sz,hs,rfl⟩:=h
   have hd:D id:=(hx (id,d6 len c) (by simp[aq])).1
   refine⟨?_,λj hj=>by simp only[aq,List.mem_singleton]at hj;subst hj;exact⟨hd,Nat.zero_le _⟩⟩
   simp[Instr.indexAt,asIntOf,bb hT (ex ha) w,aj,dU hT hs w,fJ,Nat.add_assoc,hi]
theorem BU{D:Nat->Prop}{m:Nat->bo}{t:TypeId}{i:Nat}{k:IntKind}{x v:AV}(hx:cY D m x)(h:ru T t i x=some v)(w:World):(Instr.index t (aj m x) (.int k i)).run P w=.ok (aj m v) w/\cY D m v:=by
 cases x<;>simp only[ru,reduceCtorEq,ag,ay,Option.some.injEq,ba]at h
 · rename_i s
   obtain⟨ht,b,hb,rfl⟩:=h
   refine⟨?_,bQ (by simp[hH,aq])⟩
   have hlt:=(List.getElem?_eq_some_iff.1 hb).1
   have hs:(ByteArray.mk ⟨s⟩)[i]? = some b:=by
    rw[ByteArray.getElem?_lt' _ _ (by exact hlt)]
    exact congrArg some (List.getElem?_eq_some_iff.1 hb).2
   simp[Instr.index,asIntOf,bb hT (qG ht) w,aj,hH,hs]
 · rename_i cs
   obtain⟨⟨n,e⟩,ha,hi,sz,hs,h⟩:=h
   refine⟨?_,xz hT h (gA.1 hx)⟩
   try simp only at hi h hs
   simp[Instr.index,asIntOf,bb hT (wz ha) w,aj,dU hT hs w,hi,iO hT h w]
end
end Go.Ev
