import Derived.Test.YtafekjglclnegaaGreatDoorP12
set_option linter.all false
namespace Go.Ev
open Go
inductive Tr (R:Type) where
 | ret (a:R)
 | fail
 | test (b:Bool) (k:Bool->Tr R)
 | pickN (i:Nat) (k:Nat->Tr R)
 | all (k:(Nat->Value)->Tr R)
def Tr.run {R:Type}:Tr R->Option R
 | .ret a=>some a
 | .fail=>none
 | .test b k=>(k b).run
 | .pickN i k=>(k i).run
 | .all _=>none
def Tr.bind {R S:Type}:Tr R->(R->Tr S)->Tr S
 | .ret a,K=>K a
 | .fail,_=>.fail
 | .test b k,K=>.test b fun d=>(k d).bind K
 | .pickN i k,K=>.pickN i fun d=>(k d).bind K
 | .all _,_=>.fail
theorem Tr.run_bind {R S:Type} {K:R->Tr S} {s:S}:∀{t:Tr R},(t.bind K).run=some s->∃a,t.run=some a/\(K a).run=some s
 | .ret a,h=>⟨a,rfl,h⟩
 | .fail,h=>by cases h
 | .test b k,h=>Tr.run_bind (t:=k b) h
 | .pickN i k,h=>Tr.run_bind (t:=k i) h
 | .all k,h=>by cases h
def Tr.wp {R:Type} (Q:R->Prop):Tr R->Prop
 | .ret a=>Q a
 | .fail=>False
 | .test b k=>(k b).wp Q
 | .pickN i k=>(k i).wp Q
 | .all k=>∀J,(k J).wp Q
def Tr.then {R S:Type}:Tr R->(R->Tr S)->Tr S
 | .ret a,K=>K a
 | .fail,_=>.fail
 | .test b k,K=>.test b fun d=>(k d).then K
 | .pickN i k,K=>.pickN i fun d=>(k d).then K
 | .all k,K=>.all fun J=>(k J).then K
theorem Tr.wp_bind {R S:Type} {K:R->Tr S} {Q:S->Prop}:∀{t:Tr R},(t.bind K).wp Q->∃a,t.run=some a/\(K a).wp Q
 | .ret a,h=>⟨a,rfl,h⟩
 | .fail,h=>h.elim
 | .test b k,h=>Tr.wp_bind (t:=k b) h
 | .pickN i k,h=>Tr.wp_bind (t:=k i) h
 | .all k,h=>h.elim
theorem Tr.wp_then {R S:Type} {K:R->Tr S} {Q:S->Prop}:∀{t:Tr R},(t.then K).wp Q->t.wp fun a=>(K a).wp Q
 | .ret a,h=>h
 | .fail,h=>h
 | .test b k,h=>Tr.wp_then (t:=k b) h
 | .pickN i k,h=>Tr.wp_then (t:=k i) h
 | .all k,h=>fun J=>Tr.wp_then (t:=k J) (h J)
theorem Tr.wp_mono {R:Type} {Q Q':R->Prop} (hq:∀a,Q a->Q' a):∀{t:Tr R},t.wp Q->t.wp Q'
 | .ret a,h=>hq a h
 | .fail,h=>h
 | .test b k,h=>Tr.wp_mono hq (t:=k b) h
 | .pickN i k,h=>Tr.wp_mono hq (t:=k i) h
 | .all k,h=>fun J=>Tr.wp_mono hq (t:=k J) (h J)
section
variable {R:Type}
def liftK {α:Type} (x:Option α) (K:α->Tr R):Tr R:=match x with
 | some a=>K a
 | none=>.fail
def asrt (b:Bool) (t:Tr R):Tr R:=.test b fun d=>bif d then t else .fail
theorem liftK_run {α:Type} {x:Option α} {K:α->Tr R} {s:R} (h:(liftK x K).run=some s):∃a,x=some a/\(K a).run=some s:=by
 cases x with
 | none=>cases h
 | some a=>exact ⟨a,rfl,h⟩
theorem asrt_run {b:Bool} {t:Tr R} {s:R} (h:(asrt b t).run=some s):b=true/\t.run=some s:=by
 cases b with
 | true=>exact ⟨rfl,h⟩
 | false=>cases h
theorem bif_run {b:Bool} {t:Tr R} {s:R} (h:(bif b then t else Tr.fail).run=some s):b=true/\t.run=some s:=by
 cases b with
 | true=>exact ⟨rfl,h⟩
 | false=>cases h
def inR (k:IntKind) (n:Int):Bool:=intLe (loK k) n&&intLe n (hiK k)
def mkIntT (k:IntKind) (n:Int) (K:AV->Tr R):Tr R:=.test (inR k n) fun b=>bif b then K (.int k n) else K (.int k (k.wrap n))
theorem mkIntT_run {k:IntKind} {n:Int} {K:AV->Tr R} {s:R} (h:(mkIntT k n K).run=some s):∃v,mkInt k n=some v/\(K v).run=some s:=by
 unfold mkIntT at h
 simp only [Tr.run] at h
 rw [mkInt,outI_eq,wrapA]
 cases hb:inR k n with
 | true=>rw [hb,cond_true] at h;unfold inR at hb;exact ⟨_,by rw [hb];rfl,h⟩
 | false=>rw [hb,cond_false] at h;unfold inR at hb;exact ⟨_,by rw [hb];rfl,h⟩
def bitT (k:IntKind) (n:Nat) (K:AV->Tr R):Tr R:=asrt (inR k (.ofNat n)) (K (.int k (.ofNat n)))
theorem bitT_run {k:IntKind} {n:Nat} {K:AV->Tr R} {s:R} (h:(bitT k n K).run=some s):∃v,mkInt k n=some v/\(K v).run=some s:=by
 obtain ⟨h1,h2⟩:=asrt_run h
 refine ⟨_,?_,h2⟩
 unfold inR at h1
 rw [mkInt,outI_eq,wrapA,show ((n:Nat):Int)=Int.ofNat n from rfl,h1];rfl
abbrev BinT (R:Type):Type:=IntKind->Int->Int->(AV->Tr R)->Tr R
def bAddT:BinT R:=fun k a b K=>mkIntT k (Int.add a b) K
def bSubT:BinT R:=fun k a b K=>mkIntT k (Int.sub a b) K
def bMulT:BinT R:=fun k a b K=>mkIntT k (Int.mul a b) K
def bQuoT:BinT R:=fun k a b K=>asrt (!(intEq b 0)) (mkIntT k (Int.tdiv a b) K)
def bRemT:BinT R:=fun k a b K=>asrt (!(intEq b 0)) (K (.int k (Int.tmod a b)))
def bLiftT (f:BinF):BinT R:=fun k a b K=>liftK (f k a b) K
def binSelT:BinOp->BinT R
 | .add=>bAddT
 | .sub=>bSubT
 | .mul=>bMulT
 | .quo=>bQuoT
 | .rem=>bRemT
 | .and=>fun k x y K=>bitT k (BitVec.ofInt k.bits x &&& BitVec.ofInt k.bits y).toNat K
 | .or=>fun k x y K=>bitT k (BitVec.ofInt k.bits x ||| BitVec.ofInt k.bits y).toNat K
 | .xor=>fun k x y K=>bitT k (BitVec.ofInt k.bits x ^^^ BitVec.ofInt k.bits y).toNat K
 | .andNot=>fun k x y K=>bitT k (BitVec.ofInt k.bits x &&& ~~~BitVec.ofInt k.bits y).toNat K
 | .eql=>bLiftT bEql
 | .neq=>bLiftT bNeq
 | .lss=>bLiftT bLss
 | .leq=>bLiftT bLeq
 | .gtr=>bLiftT bGtr
 | .geq=>bLiftT bGeq
 | .shl=>bLiftT bNone
 | .shr=>bLiftT bNone
theorem binSelT_run {op:BinOp} {k:IntKind} {a b:Int} {K:AV->Tr R} {s:R} (h:(binSelT op k a b K).run=some s):∃v,binSel op k a b=some v/\(K v).run=some s:=by
 have mk:∀{n:Int},(mkIntT k n K).run=some s->∃v,mkInt k n=some v/\(K v).run=some s:=mkIntT_run
 cases op<;>simp only [binSelT,binSel] at h ⊢
 case add=>exact mk h
 case sub=>exact mk h
 case mul=>exact mk h
 case quo=>
  obtain ⟨h1,h2⟩:=asrt_run h
  obtain ⟨v,h3,h4⟩:=mk h2
  exact ⟨v,by rw [bQuo,h1];exact h3,h4⟩
 case rem=>
  obtain ⟨h1,h2⟩:=asrt_run h
  exact ⟨_,by rw [bRem,h1,outI_eq];rfl,h2⟩
 case and=>exact bitT_run h
 case or=>exact bitT_run h
 case xor=>exact bitT_run h
 case andNot=>exact bitT_run h
 all_goals exact liftK_run h
def binIT (op:BinOp) (k:IntKind) (a:Int) (y:AV) (K:AV->Tr R):Tr R:=match y with
 | .int k' b=>bif isShift op then liftK (shiftA op k a b) K else bif sameK k k' then binSelT op k a b K else .fail
 | _=>.fail
theorem binIT_run {op:BinOp} {k:IntKind} {a:Int} {y:AV} {K:AV->Tr R} {s:R} (h:(binIT op k a y K).run=some s):∃v,binI op k a y=some v/\(K v).run=some s:=by
 cases y<;>simp only [binIT] at h<;>first|(cases h;done)|skip
 simp only [binI]
 cases hs:isShift op with
 | true=>rw [hs] at h;exact liftK_run h
 | false=>
   rw [hs] at h
   simp only [cond_false] at h ⊢
   obtain ⟨h1,h2⟩:=bif_run h
   rw [h1]
   exact binSelT_run h2
def binST (op:BinOp) (a:List UInt8) (y:AV) (K:AV->Tr R):Tr R:=match y with
 | .str b=>match op with
   | .add=>asrt (Nat.ble (a.length+b.length) 1000000) (K (.str (a++b)))
   | op=>liftK (cmpA op (bytesLt a b) (bytesEq a b)) K
 | _=>.fail
theorem binST_run {op:BinOp} {a:List UInt8} {y:AV} {K:AV->Tr R} {s:R} (h:(binST op a y K).run=some s):∃v,binS op a y=some v/\(K v).run=some s:=by
 cases y<;>simp only [binST] at h<;>first|(cases h;done)|skip
 cases op<;>simp only [binS] at h ⊢
 case add=>
  obtain ⟨h1,h2⟩:=asrt_run h
  exact ⟨_,by rw [h1];rfl,h2⟩
 all_goals exact liftK_run h
end
section
variable (P:Tab)
def eqFieldsB (cmp:TypeId->AV->AV->Option Bool) (xs ys:List AV):List Field->Option Bool
 | []=>some true
 | f::fs=>ok (!(f.name == "_")) (ob (partA P f.type xs f.offset) fun a=>ob (partA P f.type ys f.offset) fun b=>ob (cmp f.type a b) fun r=>ob (eqFieldsB cmp xs ys fs) fun q=>some (r&&q))
def eqElemsB (cmp:AV->AV->Option Bool) (elem:TypeId) (n:Nat) (xs ys:List AV) (i:Nat):Nat->Option Bool
 | 0=>some true
 | k+1=>ob (partA P elem xs (i*n)) fun a=>ob (partA P elem ys (i*n)) fun b=>ob (cmp a b) fun r=>ob (eqElemsB cmp elem n xs ys (i+1) k) fun q=>some (r&&q)
def eqAggDB (cmp:TypeId->AV->AV->Option Bool) (t:TypeId) (xs ys:List AV):Option TypeDesc->Option Bool
 | some (.struct fields)=>ob (P.ty.get t) fun e=>ok (!e.stood) (eqFieldsB P cmp xs ys fields.toList)
 | some (.array len elem)=>ob (szOf P elem) fun n=>eqElemsB P (cmp elem) elem n xs ys 0 len
 | _=>none
def eqAggB (cmp:TypeId->AV->AV->Option Bool) (t:TypeId) (xs:List AV):AV->Option Bool
 | .agg ys=>eqAggDB P cmp t xs ys (P.und t)
 | _=>none
def eqHB (cmp:TypeId->AV->AV->Option Bool) (t:TypeId) (x y:AV):Option Bool:=match x with
 | .bool a=>eqBoolA P t a y
 | .int k a=>eqIntA P t k a y
 | .str a=>eqStrA P t a y
 | .agg xs=>eqAggB P cmp t xs y
 | .iface a u=>eqIfaceA P cmp t a u y
 | x=>eqNil (P.und t) x y
def eqB:Nat->TypeId->AV->AV->Option Bool
 | 0,_,_,_=>none
 | d+1,t,x,y=>eqHB P (eqB d) t x y
theorem eqFieldsB_ok {c c':TypeId->AV->AV->Option Bool} (hc:∀t a b r,c t a b=some r->c' t a b=some r) {xs ys:List AV}:∀{fs:List Field} {r:Bool},eqFieldsB P c xs ys fs=some r->eqFieldsA P c' xs ys fs=some r
 | [],r,h=>h
 | f::fs,r,h=>by
   simp only [eqFieldsB,ok_some,ob_some,Option.some.injEq] at h
   obtain ⟨h0,a,ha,b,hb,q,hq,q',hq',rfl⟩:=h
   have:=eqFieldsB_ok hc hq'
   simp only [eqFieldsA,ok_some,ob_some]
   refine ⟨h0,a,ha,b,hb,q,hc _ _ _ _ hq,?_⟩
   cases q<;>simp [this]
theorem eqElemsB_ok {c c':AV->AV->Option Bool} (hc:∀a b r,c a b=some r->c' a b=some r) {elem:TypeId} {n:Nat} {xs ys:List AV}:∀{k i:Nat} {r:Bool},eqElemsB P c elem n xs ys i k=some r->eqElemsA P c' elem n xs ys i k=some r
 | 0,i,r,h=>h
 | k+1,i,r,h=>by
   simp only [eqElemsB,ob_some,Option.some.injEq] at h
   obtain ⟨a,ha,b,hb,q,hq,q',hq',rfl⟩:=h
   have:=eqElemsB_ok hc hq'
   simp only [eqElemsA,ob_some]
   refine ⟨a,ha,b,hb,q,hc _ _ _ hq,?_⟩
   cases q<;>simp [this]
theorem eqB_ok:∀{d:Nat} {t:TypeId} {x y:AV} {r:Bool},eqB P d t x y=some r->eqA P d t x y=some r
 | 0,t,x,y,r,h=>by cases h
 | d+1,t,x,y,r,h=>by
   have ih:∀t a b r,eqB P d t a b=some r->eqA P d t a b=some r:=fun t a b r=>eqB_ok
   unfold eqB eqHB at h
   unfold eqA eqH
   cases x<;>simp only at h ⊢<;>first|exact h|skip
   · rename_i a u
     unfold eqIfaceA at h ⊢
     cases y<;>simp only at h ⊢<;>first|exact h|skip
     simp only [ok_some] at h ⊢
     refine ⟨h.1,?_⟩
     have h2:=h.2
     cases hb:Nat.beq a _<;>rw [hb] at h2<;>simp only [cond_true,cond_false,ob_some,ok_some] at h2 ⊢
     · exact h2
     · obtain ⟨i,hi,hc,h3⟩:=h2
       exact ⟨i,hi,hc,ih _ _ _ _ h3⟩
   · unfold eqAggB at h
     unfold eqAggA
     cases y<;>simp only [reduceCtorEq] at h ⊢
     generalize P.und t=dd at h ⊢
     unfold eqAggDB at h
     unfold eqAggD
     split at h
     · simp only [ob_some,ok_some] at h ⊢
       obtain ⟨e,he,hs,h⟩:=h
       exact ⟨e,he,hs,eqFieldsB_ok P ih h⟩
     · simp only [ob_some] at h ⊢
       obtain ⟨n,hn,h⟩:=h
       exact ⟨n,hn,eqElemsB_ok P (ih _) h⟩
     · cases h
variable {R:Type}
def binAT (op:BinOp) (t:TypeId) (xo yo:Operand) (x y:AV) (K:AV->Tr R):Tr R:=match x with
 | .int k a=>binIT op k a y K
 | .str a=>binST op a y K
 | x=>liftK (eqlA op (ok (guardA P t xo yo x y) (eqB P 100 t x y))) K
theorem binAT_run {op:BinOp} {t:TypeId} {xo yo:Operand} {x y:AV} {K:AV->Tr R} {s:R} (h:(binAT P op t xo yo x y K).run=some s):∃v,binA P op t xo yo x y=some v/\(K v).run=some s:=by
 have other:∀{x:AV},(liftK (eqlA op (ok (guardA P t xo yo x y) (eqB P 100 t x y))) K).run=some s->∃v,eqlA op (ok (guardA P t xo yo x y) (eqA P 100 t x y))=some v/\(K v).run=some s:=fun h=>by
  obtain ⟨v,hv,hk⟩:=liftK_run h
  refine ⟨v,?_,hk⟩
  unfold eqlA at hv ⊢
  split at hv<;>simp only [ob_some,ok_some,reduceCtorEq] at hv ⊢
  · obtain ⟨b,⟨hg,he⟩,hb⟩:=hv;exact ⟨b,⟨hg,eqB_ok P he⟩,hb⟩
  · obtain ⟨b,⟨hg,he⟩,hb⟩:=hv;exact ⟨b,⟨hg,eqB_ok P he⟩,hb⟩
 unfold binAT at h
 unfold binA
 cases x<;>simp only at h ⊢<;>first|exact binIT_run h|exact binST_run h|exact other h
def unAT (op:UnOp) (x:AV) (K:AV->Tr R):Tr R:=match x with
 | .int k n=>match op with
   | .neg=>mkIntT k (Int.sub 0 n) K
   | op=>liftK (unA op (.int k n)) K
 | .bool b=>match op with
   | .not=>K (.bool !b)
   | _=>.fail
 | _=>.fail
theorem unAT_run {op:UnOp} {x:AV} {K:AV->Tr R} {s:R} (h:(unAT op x K).run=some s):∃v,unA op x=some v/\(K v).run=some s:=by
 unfold unAT at h
 cases x<;>simp only at h<;>first|(cases h;done)|skip
 · cases op<;>simp only at h<;>first|(cases h;done)|exact ⟨_,rfl,h⟩
 · cases op<;>simp only at h<;>first|exact liftK_run h|skip
   exact mkIntT_run h
def pickT (a b:Option AV) (c:AV) (K:AV->Tr R):Tr R:=match c with
 | .bool d=>.test d fun e=>liftK (bif e then a else b) K
 | _=>.fail
theorem pickT_run {a b:Option AV} {c:AV} {K:AV->Tr R} {s:R} (h:(pickT a b c K).run=some s):∃v,pickV a b c=some v/\(K v).run=some s:=by
 unfold pickT at h
 cases c<;>simp only at h<;>first|(cases h;done)|skip
 rename_i d
 simp only [Tr.run] at h
 cases d<;>exact liftK_run h
def isKA (k:IntKind):AV->Bool
 | .int k' _=>sameK k' k
 | _=>false
def intOf:AV->Int
 | .int _ n=>n
 | _=>0
def isBA:AV->Bool
 | .bool _=>true
 | _=>false
def boolOf:AV->Bool
 | .bool b=>b
 | _=>false
def isSA:AV->Bool
 | .str _=>true
 | _=>false
def strOf:AV->List UInt8
 | .str s=>s
 | _=>[]
theorem isKA_some {k:IntKind} {v:AV} (h:isKA k v=true):v=.int k (intOf v):=by
 cases v<;>simp only [isKA,Bool.false_eq_true] at h
 rw [sameK_iff] at h
 rw [h];rfl
theorem isBA_some {v:AV} (h:isBA v=true):v=.bool (boolOf v):=by cases v<;>simp only [isBA,Bool.false_eq_true] at h;rfl
theorem isSA_some {v:AV} (h:isSA v=true):v=.str (strOf v):=by cases v<;>simp only [isSA,Bool.false_eq_true] at h;rfl
theorem getD_some {cs:List AV} {i:Nat} {v:AV} (h:cs.getD i undefA=v) (hv:v≠undefA):cs[i]? = some v:=by
 rw [List.getD_eq_getElem?_getD] at h
 cases hx:cs[i]? with
 | none=>rw [hx] at h;exact absurd h.symm hv
 | some x=>rw [hx] at h;rw [←h];rfl
def cellT (z:AV) (cs:List AV) (off:Nat) (K:AV->Tr R):Tr R:=match z with
 | .int k _=>asrt (isKA k (cs.getD off undefA)) (K (.int k (intOf (cs.getD off undefA))))
 | .bool _=>asrt (isBA (cs.getD off undefA)) (K (.bool (boolOf (cs.getD off undefA))))
 | .str _=>asrt (isSA (cs.getD off undefA)) (K (.str (strOf (cs.getD off undefA))))
 | _=>.pickN off fun j=>liftK cs[j]? K
theorem cellT_run {z:AV} {cs:List AV} {off:Nat} {K:AV->Tr R} {s:R} (h:(cellT z cs off K).run=some s):∃v,cs[off]? = some v/\(K v).run=some s:=by
 have other:(Tr.pickN off fun j=>liftK cs[j]? K).run=some s->∃v,cs[off]? = some v/\(K v).run=some s:=fun h=>liftK_run h
 unfold cellT at h
 cases z<;>simp only at h<;>first|exact other h|skip
 · obtain ⟨h1,h2⟩:=asrt_run h
   exact ⟨_,getD_some (isBA_some h1) (by simp [undefA]),h2⟩
 · obtain ⟨h1,h2⟩:=asrt_run h
   exact ⟨_,getD_some (isKA_some h1) (by simp [undefA]),h2⟩
 · obtain ⟨h1,h2⟩:=asrt_run h
   exact ⟨_,getD_some (isSA_some h1) (by simp [undefA]),h2⟩
def cellsT (cs:List AV):List AV->Nat->(List AV->Tr R)->Tr R
 | [],_,K=>K []
 | z::zs,off,K=>cellT z cs off fun v=>cellsT cs zs (off+1) fun vs=>K (v::vs)
theorem cellsT_run {cs:List AV}:∀{zs:List AV} {off:Nat} {K:List AV->Tr R} {s:R},(cellsT cs zs off K).run=some s->∃vs,vs.length=zs.length/\(∀i,i<zs.length->cs[off+i]? = vs[i]?)/\(K vs).run=some s
 | [],off,K,s,h=>⟨[],rfl,fun i hi=>absurd hi (Nat.not_lt_zero i),h⟩
 | z::zs,off,K,s,h=>by
   obtain ⟨v,hv,h⟩:=cellT_run h
   obtain ⟨vs,h1,h2,h⟩:=cellsT_run h
   refine ⟨v::vs,by simp [h1],fun i hi=>?_,h⟩
   cases i with
   | zero=>exact hv
   | succ i=>
     have:=h2 i (by simpa using hi)
     rw [show off+(i+1)=off+1+i by omega]
     exact this
theorem takeA_of {cs vs:List AV} {off n:Nat} (h1:vs.length=n) (h2:∀i,i<n->cs[off+i]? = vs[i]?):takeA cs off n=some vs:=by
 have e:(cs.drop off).take n=vs:=by
  apply List.ext_getElem?
  intro i
  rw [List.getElem?_take]
  split
  · rename_i hi;rw [List.getElem?_drop];exact h2 i hi
  · rename_i hi;rw [List.getElem?_eq_none (by omega)]
 rw [takeA,e,beqT h1];rfl
def partT (t:TypeId) (cs:List AV) (off:Nat) (K:AV->Tr R):Tr R:=
 liftK (P.und t) fun d=>bif aggD (some d) then liftK (szOf P t) fun n=>liftK (zeroA P t) fun z=>bif Nat.beq (cellsA z).length n then cellsT cs (cellsA z) off fun vs=>K (.agg vs) else .fail
  else liftK (zeroA P t) fun z=>cellT z cs off K
theorem partT_run {t:TypeId} {cs:List AV} {off:Nat} {K:AV->Tr R} {s:R} (h:(partT P t cs off K).run=some s):∃v,partA P t cs off=some v/\(K v).run=some s:=by
 obtain ⟨d,hd,h⟩:=liftK_run h
 unfold partA
 simp only [hd,ob]
 cases ha:aggD (some d) with
 | true=>
   rw [ha,cond_true] at h
   rw [cond_true]
   obtain ⟨n,hn,h⟩:=liftK_run h
   obtain ⟨z,hz,h⟩:=liftK_run h
   obtain ⟨hl,h⟩:=bif_run h
   rw [beq_iff] at hl
   obtain ⟨vs,h1,h2,h⟩:=cellsT_run h
   exact ⟨_,by simp only [hn,takeA_of (h1.trans hl) fun i hi=>h2 i (by omega)],h⟩
 | false=>
   rw [ha,cond_false] at h
   rw [cond_false]
   obtain ⟨z,hz,h⟩:=liftK_run h
   exact cellT_run h
def idxT (i:AV) (K:Nat->Tr R):Tr R:=match i with
 | .int _ n=>asrt (intLe 0 n) (K n.toNat)
 | _=>.fail
theorem idxT_run {i:AV} {K:Nat->Tr R} {s:R} (h:(idxT i K).run=some s):∃n,idxA i=some n/\(K n).run=some s:=by
 unfold idxT at h
 cases i<;>simp only at h<;>first|(cases h;done)|skip
 rename_i k n
 obtain ⟨h1,h2⟩:=asrt_run h
 have hn:0≤n:=by rw [intLe_dec] at h1;simpa using h1
 refine ⟨_,?_,h2⟩
 obtain ⟨j,rfl⟩:∃j:Nat,n=Int.ofNat j:=⟨n.toNat,(Int.toNat_of_nonneg hn).symm⟩
 rfl
def natT (hi:Nat) (v:AV) (K:Nat->Tr R):Tr R:=idxT v fun n=>asrt (Nat.ble n hi) (K n)
theorem natT_run {hi:Nat} {v:AV} {K:Nat->Tr R} {s:R} (h:(natT hi v K).run=some s):∃n,natA hi v=some n/\(K n).run=some s:=by
 obtain ⟨n,h1,h⟩:=idxT_run h
 obtain ⟨h2,h⟩:=asrt_run h
 refine ⟨n,?_,h⟩
 unfold idxA at h1
 split at h1
 · cases h1;simp only [natA,h2,ok,cond_true]
 · cases h1
def boundT (most dflt:Nat) (v:Option AV) (K:Nat->Tr R):Tr R:=match v with
 | none=>K dflt
 | some v=>natT most v K
theorem boundT_run {most dflt:Nat} {v:Option AV} {K:Nat->Tr R} {s:R} (h:(boundT most dflt v K).run=some s):∃n,boundA most dflt v=some n/\(K n).run=some s:=by
 cases v with
 | none=>exact ⟨dflt,rfl,h⟩
 | some v=>exact natT_run h
def eitherT {α:Type} (b:Bool) (x y:α) (K:α->Tr R):Tr R:=.test b fun d=>bif d then K x else K y
theorem eitherT_run {α:Type} {b:Bool} {x y:α} {K:α->Tr R} {s:R} (h:(eitherT b x y K).run=some s):(K (bif b then x else y)).run=some s:=by
 cases b<;>exact h
def capSliceT (id off size m h l:Nat) (K:AV->Tr R):Tr R:=eitherT (Nat.beq m l) (AV.slice id off (h-l) (.known (m-l))) (.slice id (off+l*size) (h-l) (.known (m-l))) K
def sliceStrT (s:List UInt8) (lo hi:Option AV) (K:AV->Tr R):Tr R:=boundT s.length s.length hi fun h=>boundT h 0 lo fun l=>K (.str ((s.take h).drop l))
def sliceKnownT (size id off len c:Nat) (lo hi max:Option AV) (K:AV->Tr R):Tr R:=
 bif max.isNone || hi.isSome then boundT c c max fun m=>boundT m len hi fun h=>boundT h 0 lo fun l=>capSliceT id off size m h l K else .fail
theorem sliceKnownT_run {size id off len c:Nat} {lo hi max:Option AV} {K:AV->Tr R} {s:R} (h:(sliceKnownT size id off len c lo hi max K).run=some s):∃v,sliceKnown size id off len c lo hi max=some v/\(K v).run=some s:=by
 obtain ⟨h0,h⟩:=bif_run h
 obtain ⟨m,hm,h⟩:=boundT_run h
 obtain ⟨h',hh,h⟩:=boundT_run h
 obtain ⟨l,hl,h⟩:=boundT_run h
 exact ⟨_,by simp only [sliceKnown,h0,ok,cond_true,hm,ob,hh,hl,capSlice],eitherT_run h⟩
def restSliceT (size id off k h l:Nat) (K:AV->Tr R):Tr R:=.test (Nat.beq l 0) fun b=>bif b then K (.slice id off h (.rest k)) else asrt (natLt l h) (K (.slice id (off+l*size) (h-l) (.rest (k+l))))
theorem restSliceT_run {size id off k h' l:Nat} {K:AV->Tr R} {s:R} (h:(restSliceT size id off k h' l K).run=some s):∃v,restSlice size id off k h' l=some v/\(K v).run=some s:=by
 unfold restSliceT at h
 unfold restSlice
 simp only [Tr.run] at h
 cases hb:Nat.beq l 0 with
 | true=>rw [hb] at h;exact ⟨_,by simp only [cond_true],h⟩
 | false=>
   rw [hb,cond_false] at h
   obtain ⟨h1,h⟩:=asrt_run h
   exact ⟨_,by simp only [cond_false,h1,ok,cond_true],h⟩
def sliceCapT (size id off len:Nat) (lo hi max:Option AV) (c:Cap) (K:AV->Tr R):Tr R:=match c with
 | .known c=>sliceKnownT size id off len c lo hi max K
 | .rest k=>match max with
   | none=>boundT len len hi fun h=>boundT h 0 lo fun l=>restSliceT size id off k h l K
   | some mx=>bif hi.isSome then natT len mx fun m=>boundT m len hi fun h=>boundT h 0 lo fun l=>capSliceT id off size m h l K else .fail
def sliceOfT (t:TypeId) (lo hi mx:Option AV) (v:AV) (K:AV->Tr R):Tr R:=match v with
 | .ptr id off=>liftK (arrT P t) fun ne=>liftK (szOf P ne.2) fun size=>sliceKnownT size id off ne.1 ne.1 lo hi mx K
 | .str s=>bif strT P t&&mx.isNone then sliceStrT s lo hi K else .fail
 | .nilslice=>liftK (elemT P t) fun e=>liftK (szOf P e) fun _=>bif mx.isNone || hi.isSome then boundT 0 0 mx fun _=>boundT 0 0 hi fun _=>boundT 0 0 lo fun _=>K .nilslice else .fail
 | .slice id off len c=>liftK (elemT P t) fun e=>liftK (szOf P e) fun size=>sliceCapT size id off len lo hi mx c K
 | _=>.fail
theorem sliceOfT_run {t:TypeId} {lo hi mx:Option AV} {v:AV} {K:AV->Tr R} {s:R} (h:(sliceOfT P t lo hi mx v K).run=some s):∃r,sliceOf P t lo hi mx v=some r/\(K r).run=some s:=by
 unfold sliceOfT at h
 unfold sliceOf
 cases v<;>simp only at h<;>first|(cases h;done)|skip
 case ptr id off=>
  obtain ⟨ne,h1,h⟩:=liftK_run h
  obtain ⟨size,h2,h⟩:=liftK_run h
  obtain ⟨v,hv,h⟩:=sliceKnownT_run h
  exact ⟨v,by simp only [h1,ob,h2,hv],h⟩
 case str s=>
  obtain ⟨h1,h⟩:=bif_run h
  obtain ⟨a,ha,h⟩:=boundT_run h
  obtain ⟨b,hb,h⟩:=boundT_run h
  exact ⟨_,by simp only [h1,ok,cond_true,sliceStr,ha,ob,hb],h⟩
 case nilslice=>
  obtain ⟨e,h1,h⟩:=liftK_run h
  obtain ⟨sz,h2,h⟩:=liftK_run h
  obtain ⟨h3,h⟩:=bif_run h
  obtain ⟨a,ha,h⟩:=boundT_run h
  obtain ⟨b,hb,h⟩:=boundT_run h
  obtain ⟨c,hc,h⟩:=boundT_run h
  exact ⟨_,by simp only [h1,ob,h2,sliceNil,h3,ok,cond_true,ha,hb,hc],h⟩
 case slice id off len c=>
  obtain ⟨e,h1,h⟩:=liftK_run h
  obtain ⟨size,h2,h⟩:=liftK_run h
  simp only [h1,ob,h2]
  unfold sliceCapT at h
  unfold sliceCap
  cases c with
  | known c=>exact sliceKnownT_run h
  | rest k=>
    cases mx with
    | none=>
      obtain ⟨a,ha,h⟩:=boundT_run h
      obtain ⟨b,hb,h⟩:=boundT_run h
      obtain ⟨v,hv,h⟩:=restSliceT_run h
      exact ⟨v,by simp only [sliceRest,ha,ob,hb,hv],h⟩
    | some mx=>
      obtain ⟨h3,h⟩:=bif_run h
      obtain ⟨a,ha,h⟩:=natT_run h
      obtain ⟨b,hb,h⟩:=boundT_run h
      obtain ⟨c,hc,h⟩:=boundT_run h
      exact ⟨_,by simp only [sliceRestMax,h3,ok,cond_true,ha,ob,hb,hc,capSlice],eitherT_run h⟩
def overL:List AV->List AV->List AV
 | cs,[]=>cs
 | [],_::_=>[]
 | _::cs,v::vs=>v::overL cs vs
def putL:List AV->Nat->List AV->List AV
 | cs,0,vs=>overL cs vs
 | [],_+1,_=>[]
 | c::cs,n+1,vs=>c::putL cs n vs
theorem overL_ok:∀{cs vs:List AV},vs.length≤cs.length->overA cs vs=some (overL cs vs)
 | cs,[],_=>by cases cs<;>rfl
 | [],v::vs,h=>by simp at h
 | c::cs,v::vs,h=>by simp only [overA,overL_ok (cs:=cs) (vs:=vs) (by simpa using h),ob,overL]
theorem putL_ok:∀{cs:List AV} {n:Nat} {vs:List AV},n+vs.length≤cs.length->layA cs n vs=some (putL cs n vs)
 | cs,0,vs,h=>by rw [layA.eq_def,putL.eq_def];exact overL_ok (by omega)
 | [],n+1,vs,h=>by simp at h
 | c::cs,n+1,vs,h=>by simp only [layA,putL_ok (cs:=cs) (n:=n) (vs:=vs) (by simp at h;omega),ob,putL]
def layT (off:Nat) (vs:List AV) (x:AObj) (K:AObj->Tr R):Tr R:=match x with
 | .cells cs true g=>asrt (Nat.ble (off+vs.length) cs.length) (K (.cells (putL cs off vs) true g))
 | _=>.fail
theorem layT_run {off:Nat} {vs:List AV} {x:AObj} {K:AObj->Tr R} {s:R} (h:(layT off vs x K).run=some s):∃y,layObj off vs x=some y/\(K y).run=some s:=by
 unfold layT at h
 split at h
 · obtain ⟨h1,h⟩:=asrt_run h
   rw [ble_iff] at h1
   exact ⟨_,by simp only [layObj,putL_ok h1,ob],h⟩
 · cases h
def takeT (cs:List AV) (off n:Nat) (K:List AV->Tr R):Tr R:=asrt (Nat.ble (off+n) cs.length) (K ((cs.drop off).take n))
theorem takeT_run {cs:List AV} {off n:Nat} {K:List AV->Tr R} {s:R} (h:(takeT cs off n K).run=some s):∃vs,takeA cs off n=some vs/\(K vs).run=some s:=by
 obtain ⟨h1,h⟩:=asrt_run h
 rw [ble_iff] at h1
 exact ⟨_,by rw [takeA,beqT (by simp;omega)];rfl,h⟩
def isBy:AV->Bool
 | .int .u8 n=>intLe 0 n&&intLe n 255
 | _=>false
def byOf (v:AV):UInt8:=UInt8.ofNat (intOf v).toNat
theorem byteOf_by {v:AV} (h:isBy v=true):byteOf v=some (byOf v):=by
 unfold isBy at h
 split at h
 · rename_i n
   rw [Bool.and_eq_true,intLe_dec,intLe_dec] at h
   simp only [decide_eq_true_eq] at h
   obtain ⟨j,rfl⟩:∃j:Nat,n=Int.ofNat j:=⟨n.toNat,(Int.toNat_of_nonneg h.1).symm⟩
   have:j<256:=by have:=h.2;simp only [Int.ofNat_eq_natCast] at this;omega
   simp only [byteOf,natLt_iff.2 this,ok,cond_true,byOf,intOf]
   rfl
 · cases h
def allBy:List AV->Bool
 | []=>true
 | v::vs=>isBy v&&allBy vs
theorem bytesOf_by:∀{vs:List AV},allBy vs=true->bytesOfA vs=some (vs.map byOf)
 | [],_=>rfl
 | v::vs,h=>by
   rw [allBy,Bool.and_eq_true] at h
   simp only [bytesOfA,byteOf_by h.1,ob,bytesOf_by h.2,List.map_cons]
end
abbrev OpFT (R:Type):Type:=Tab->Ctx->(Operand->Option AV)->Own->(AV×Own->Tr R)->Tr R
section
variable {R:Type}
def doBinT (op:BinOp) (t:TypeId) (x y:Operand):OpFT R:=fun P C ρ o K=>liftK (ρ x) fun a=>liftK (ρ y) fun b=>binAT P op t x y a b fun v=>K (v,o)
def doUnT (op:UnOp) (x:Operand):OpFT R:=fun P C ρ o K=>liftK (ρ x) fun a=>unAT op a fun v=>K (v,o)
def doPickT (c a b:Operand):OpFT R:=fun P C ρ o K=>liftK (ρ c) fun cv=>pickT (ρ a) (ρ b) cv fun v=>K (v,o)
def convT (P:Tab) (C:Ctx) (o:Own) (src dst:TypeId) (v:AV) (K:AV×Own->Tr R):Tr R:=match v with
 | .int _ n=>bif (P.und src).isSome then (match P.und dst with
   | some (.int k)=>mkIntT k n fun v=>K (v,o)
   | d=>liftK (keep o (convInt n d)) K) else .fail
 | .str s=>bif strD (P.und src) then (match P.und dst with
   | some .string=>K (.str s,o)
   | some (.slice e)=>asrt (isByteD (P.und e)&&Nat.ble s.length 1000000) (K (.slice (o.next C) 0 s.length (.rest 0),o.push (.cells (s.map byteA) false none)))
   | _=>.fail) else .fail
 | .slice id off len _=>liftK (elemD (P.und src)) fun e=>bif isByteD (P.und e)&&strD (P.und dst) then liftK (cellsOf (get C o id)) fun cs=>takeT cs off len fun bs=>asrt (allBy bs) (K (.str (bs.map byOf),o)) else .fail
 | v=>liftK (convertA P C o src dst v) K
def doConvertT (src dst:TypeId) (x:Operand):OpFT R:=fun P C ρ o K=>liftK (ρ x) fun v=>convT P C o src dst v K
def indexVT (P:Tab) (t:TypeId) (n:Nat) (v:AV) (K:AV->Tr R):Tr R:=match v with
 | .agg cs=>liftK (arrT P t) fun ne=>asrt (natLt n ne.1) (liftK (szOf P ne.2) fun sz=>partT P ne.2 cs (n*sz) K)
 | .str s=>bif strT P t then asrt (natLt n s.length) (K (byteA (s.getD n 0))) else .fail
 | _=>.fail
def doIndexT (t:TypeId) (x ix:Operand):OpFT R:=fun P C ρ o K=>liftK (ρ x) fun v=>liftK (ρ ix) fun i=>idxT i fun n=>indexVT P t n v fun r=>K (r,o)
def indexAddrVT (P:Tab) (t:TypeId) (n:Nat) (v:AV) (K:AV->Tr R):Tr R:=match v with
 | .ptr id off=>liftK (arrT P t) fun ne=>asrt (natLt n ne.1) (liftK (szOf P ne.2) fun sz=>K (.ptr id (off+n*sz)))
 | .slice id off len _=>liftK (elemT P t) fun e=>asrt (natLt n len) (liftK (szOf P e) fun sz=>K (.ptr id (off+n*sz)))
 | _=>.fail
def doIndexAddrT (t:TypeId) (x ix:Operand):OpFT R:=fun P C ρ o K=>liftK (ρ x) fun v=>liftK (ρ ix) fun i=>idxT i fun n=>indexAddrVT P t n v fun r=>K (r,o)
def doSliceT (t:TypeId) (x:Operand) (lo hi mx:Option Operand):OpFT R:=fun P C ρ o K=>
 liftK (ρ x) fun v=>liftK (optA ρ lo) fun l=>liftK (optA ρ hi) fun h=>liftK (optA ρ mx) fun m=>sliceOfT P t l h m v fun r=>K (r,o)
def doMakeSliceT (t:TypeId) (l c:Operand):OpFT R:=fun P C ρ o K=>liftK (ρ l) fun lv=>liftK (ρ c) fun cv=>
 liftK (elemT P t) fun elem=>liftK (szOf P elem) fun n=>liftK (zeroA P elem) fun z=>natT 10000 cv fun cn=>natT cn lv fun ln=>
  bif Nat.beq (cellsA z).length n&&natLt 0 n&&Nat.ble n 10000&&smallT P elem&&allOne (cellsA z) then K (.slice (o.next C) 0 ln (.known cn),o.push (.cells (repA (cellsA z) cn) true none)) else .fail
def doLoadT (t:TypeId) (a:Operand):OpFT R:=fun P C ρ o K=>liftK (ρ a) fun p=>match p with
 | .ptr id off=>liftK (cellsOf (get C o id)) fun cs=>partT P t cs off fun v=>K (v,o)
 | _=>.fail
def doStoreT (t:TypeId) (a x:Operand):OpFT R:=fun P C ρ o K=>liftK (ρ a) fun p=>liftK (ρ x) fun v=>match p with
 | .ptr id off=>liftK (szOf P t) fun n=>bif Nat.beq (cellsA v).length n&&allOne (cellsA v) then liftK (own? C o id) fun x=>layT off (cellsA v) x fun x'=>K (undefA,putO C o id x') else .fail
 | _=>.fail
def nextObjT (C:Ctx) (o:Own) (id:Nat) (x:AObj) (K:AV×Own->Tr R):Tr R:=match x with
 | .siter s pos=>.test (natLt pos s.length) fun b=>bif b then K (.tuple [.bool true,.int .i64 (.ofNat pos),.int .i32 (.ofNat (Utf8.decode ⟨⟨s⟩⟩ pos).1)],putO C o id (.siter s (pos+(Utf8.decode ⟨⟨s⟩⟩ pos).2))) else K (.tuple [.bool false],o)
 | _=>.fail
def doNextT (it:Operand) (st:Bool):OpFT R:=fun P C ρ o K=>bif st then liftK (ρ it) fun v=>match v with
 | .ptr id off=>bif Nat.beq off 0 then liftK (own? C o id) fun x=>nextObjT C o id x K else .fail
 | _=>.fail
 else .fail
def findT (k:AV):List (AV×AV)->(Option AV->Tr R)->Tr R
 | [],K=>K none
 | e::es,K=>liftK (keyEq k e.1) fun r=>.test r fun b=>bif b then K (some e.2) else findT k es K
def doLookupT (t:TypeId) (x ix:Operand) (okv:Bool):OpFT R:=fun P C ρ o K=>liftK (ρ x) fun m=>liftK (ρ ix) fun k=>liftK (mapD (P.und t)) fun ke=>bif keyD k (P.und ke.1) then (match m with
 | .map id=>liftK (entriesOf (get C o id)) fun es=>findT k es fun r=>match r with
   | some v=>K (answerA okv v true,o)
   | none=>liftK (zeroA P ke.2) fun z=>K (answerA okv z false,o)
 | _=>.fail) else .fail
def doLiftT (op:Op):OpFT R:=fun P C ρ o K=>liftK (opSel op P C ρ o) K
def opSelT:Op->OpFT R
 | .pick c a b=>doPickT c a b
 | .binOp op t x y _=>doBinT op t x y
 | .unOp op _ x=>doUnT op x
 | .convert src dst x=>doConvertT src dst x
 | .makeSlice t l c=>doMakeSliceT t l c
 | .slice t x lo hi mx=>doSliceT t x lo hi mx
 | .indexAddr t x ix=>doIndexAddrT t x ix
 | .index t x ix=>doIndexT t x ix
 | .load t a=>doLoadT t a
 | .store t a x=>doStoreT t a x
 | .next it s=>doNextT it s
 | .lookup t x ix okv=>doLookupT t x ix okv
 | op=>doLiftT op
theorem keep_of {o:Own} {x:Option AV} {v:AV} (h:x=some v):keep o x=some (v,o):=by rw [h];rfl
theorem findT_run {k:AV}:∀{es:List (AV×AV)} {K:Option AV->Tr R} {s:R},(findT k es K).run=some s->∃r,findA k es=some r/\(K r).run=some s
 | [],K,s,h=>⟨none,rfl,h⟩
 | e::es,K,s,h=>by
   obtain ⟨r,hr,h⟩:=liftK_run h
   simp only [Tr.run] at h
   simp only [findA,hr,ob]
   cases r with
   | true=>exact ⟨_,rfl,h⟩
   | false=>exact findT_run h
theorem opT_run {op:Op} {P:Tab} {C:Ctx} {ρ:Operand->Option AV} {o:Own} {K:AV×Own->Tr R} {s:R} (h:(opSelT op P C ρ o K).run=some s):∃r,opA P C ρ o op=some r/\(K r).run=some s:=by
 unfold opA
 cases op<;>simp only [opSelT,doLiftT] at h<;>first|exact liftK_run h|skip
 case pick c a b=>
  obtain ⟨cv,hc,h⟩:=liftK_run h
  obtain ⟨v,hv,h⟩:=pickT_run h
  exact ⟨_,by simp only [opSel,doPick];exact keep_of (ob_some.2 ⟨cv,hc,hv⟩),h⟩
 case binOp op t x y e=>
  obtain ⟨a,ha,h⟩:=liftK_run h
  obtain ⟨b,hb,h⟩:=liftK_run h
  obtain ⟨v,hv,h⟩:=binAT_run P h
  exact ⟨_,by simp only [opSel,doBin];exact keep_of (ob_some.2 ⟨a,ha,ob_some.2 ⟨b,hb,hv⟩⟩),h⟩
 case unOp op t x=>
  obtain ⟨a,ha,h⟩:=liftK_run h
  obtain ⟨v,hv,h⟩:=unAT_run h
  exact ⟨_,by simp only [opSel,doUn];exact keep_of (ob_some.2 ⟨a,ha,hv⟩),h⟩
 case convert src dst x=>
  obtain ⟨v,hv,h⟩:=liftK_run h
  simp only [opSel,doConvert,hv,ob]
  unfold convT at h
  cases v<;>simp only at h<;>first|exact liftK_run h|skip
  case int k n=>
   obtain ⟨h1,h⟩:=bif_run h
   simp only [convertA,h1]
   split at h
   · rename_i k hk
     rw [hk]
     obtain ⟨v,h2,h3⟩:=mkIntT_run h
     exact ⟨_,by simp only [ok,cond_true];exact keep_of h2,h3⟩
   · obtain ⟨r,h2,h3⟩:=liftK_run h
     exact ⟨r,by simpa only [ok,cond_true] using h2,h3⟩
  case str str=>
   obtain ⟨h1,h⟩:=bif_run h
   simp only [convertA,h1,ok,cond_true]
   split at h
   · rename_i hk;rw [hk];exact ⟨_,rfl,h⟩
   · rename_i e hk
     obtain ⟨h2,h⟩:=asrt_run h
     rw [hk]
     exact ⟨_,by simp only [convStr,h2,ok,cond_true],h⟩
   · cases h
  case slice id off len c=>
   obtain ⟨e,he,h⟩:=liftK_run h
   obtain ⟨h1,h⟩:=bif_run h
   obtain ⟨cs,hc,h⟩:=liftK_run h
   obtain ⟨bs,hb,h⟩:=takeT_run h
   obtain ⟨h2,h⟩:=asrt_run h
   exact ⟨_,by simp only [convertA,convSlice,he,ob,h1,ok,cond_true,readA,hc,hb,bytesOf_by h2,keep],h⟩
 case makeSlice t l c=>
  obtain ⟨lv,hl,h⟩:=liftK_run h
  obtain ⟨cv,hc,h⟩:=liftK_run h
  obtain ⟨e,he,h⟩:=liftK_run h
  obtain ⟨n,hn,h⟩:=liftK_run h
  obtain ⟨z,hz,h⟩:=liftK_run h
  obtain ⟨cn,h1,h⟩:=natT_run h
  obtain ⟨ln,h2,h⟩:=natT_run h
  obtain ⟨h3,h⟩:=bif_run h
  exact ⟨_,by simp only [opSel,doMakeSlice,hl,hc,ob,makeSliceA,he,hn,hz,h1,h2,h3,ok,cond_true],h⟩
 case slice t x lo hi mx=>
  obtain ⟨v,hv,h⟩:=liftK_run h
  obtain ⟨l,hl,h⟩:=liftK_run h
  obtain ⟨hh,hhe,h⟩:=liftK_run h
  obtain ⟨m,hm,h⟩:=liftK_run h
  obtain ⟨r,hr,h⟩:=sliceOfT_run P h
  exact ⟨_,by simp only [opSel,doSlice,hv,hl,hhe,hm,ob];exact keep_of hr,h⟩
 case indexAddr t x ix=>
  obtain ⟨v,hv,h⟩:=liftK_run h
  obtain ⟨i,hi,h⟩:=liftK_run h
  obtain ⟨n,hn,h⟩:=idxT_run h
  simp only [opSel,doIndexAddr,hv,hi,ob,hn]
  unfold indexAddrVT at h
  cases v<;>simp only at h<;>first|(cases h;done)|skip
  · obtain ⟨ne,h1,h⟩:=liftK_run h
    obtain ⟨h2,h⟩:=asrt_run h
    obtain ⟨sz,h3,h⟩:=liftK_run h
    exact ⟨_,keep_of (by simp only [indexAddrA,h1,ob,h2,ok,cond_true,h3]),h⟩
  · obtain ⟨ne,h1,h⟩:=liftK_run h
    obtain ⟨h2,h⟩:=asrt_run h
    obtain ⟨sz,h3,h⟩:=liftK_run h
    exact ⟨_,keep_of (by simp only [indexAddrA,h1,ob,h2,ok,cond_true,h3]),h⟩
 case index t x ix=>
  obtain ⟨v,hv,h⟩:=liftK_run h
  obtain ⟨i,hi,h⟩:=liftK_run h
  obtain ⟨n,hn,h⟩:=idxT_run h
  simp only [opSel,doIndex,hv,hi,ob,hn]
  unfold indexVT at h
  cases v<;>simp only at h<;>first|(cases h;done)|skip
  · rename_i str
    obtain ⟨h1,h⟩:=bif_run h
    obtain ⟨h2,h⟩:=asrt_run h
    rw [natLt_iff] at h2
    refine ⟨_,keep_of ?_,h⟩
    simp only [indexA,h1,ok,cond_true]
    rw [List.getD_eq_getElem?_getD,List.getElem?_eq_getElem h2]
    rfl
  · obtain ⟨ne,h1,h⟩:=liftK_run h
    obtain ⟨h2,h⟩:=asrt_run h
    obtain ⟨sz,h3,h⟩:=liftK_run h
    obtain ⟨r,h4,h⟩:=partT_run P h
    exact ⟨_,keep_of (by simp only [indexA,h1,ob,h2,ok,cond_true,h3,h4]),h⟩
 case load t a=>
  obtain ⟨p,hp,h⟩:=liftK_run h
  cases p<;>simp only at h<;>first|(cases h;done)|skip
  obtain ⟨cs,hc,h⟩:=liftK_run h
  obtain ⟨v,hv,h⟩:=partT_run P h
  exact ⟨_,by simp only [opSel,doLoad,hp,ob,loadA,hc];exact keep_of hv,h⟩
 case store t a x=>
  obtain ⟨p,hp,h⟩:=liftK_run h
  obtain ⟨v,hv,h⟩:=liftK_run h
  cases p<;>simp only at h<;>first|(cases h;done)|skip
  obtain ⟨n,hn,h⟩:=liftK_run h
  obtain ⟨h1,h⟩:=bif_run h
  obtain ⟨y,hy,h⟩:=liftK_run h
  obtain ⟨z,hz,h⟩:=layT_run h
  exact ⟨_,by simp only [opSel,doStore,hp,hv,ob,storeA,hn,h1,ok,cond_true,writeA,hy,hz],h⟩
 case next it st=>
  obtain ⟨h1,h⟩:=bif_run h
  obtain ⟨v,hv,h⟩:=liftK_run h
  cases v<;>simp only at h<;>first|(cases h;done)|skip
  obtain ⟨h2,h⟩:=bif_run h
  rw [beq_iff] at h2
  subst h2
  obtain ⟨x,hx,h⟩:=liftK_run h
  unfold nextObjT at h
  split at h
  · rename_i str pos
    simp only [Tr.run] at h
    have hd:∀n,outN .i32 .ofNat n=.int .i32 (.ofNat n):=fun n=>by cases n<;>rfl
    have hg:goInt pos=.int .i64 (.ofNat pos):=by cases pos<;>rfl
    cases hb:natLt pos str.length with
    | true=>
      rw [hb,cond_true] at h
      exact ⟨_,by simp only [opSel,doNext,h1,ok,cond_true,hv,ob,nextA,hx,nextObj,nextS,hb,hd,hg],h⟩
    | false=>
      rw [hb,cond_false] at h
      exact ⟨_,by simp only [opSel,doNext,h1,ok,cond_true,hv,ob,nextA,hx,nextObj,nextS,hb,cond_false],h⟩
  · cases h
 case lookup t x ix okv=>
  obtain ⟨mv,hm,h⟩:=liftK_run h
  obtain ⟨k,hk,h⟩:=liftK_run h
  obtain ⟨ke,hke,h⟩:=liftK_run h
  obtain ⟨h1,h⟩:=bif_run h
  cases mv<;>simp only at h<;>first|(cases h;done)|skip
  obtain ⟨es,he,h⟩:=liftK_run h
  obtain ⟨r,hr,h⟩:=findT_run h
  simp only [opSel,doLookup,hm,hk,ob,lookA,hke,h1,ok,cond_true,lookupA,he,hr]
  cases r with
  | some v=>exact ⟨_,rfl,h⟩
  | none=>
    obtain ⟨z,hz,h⟩:=liftK_run h
    exact ⟨_,by simp only [hz,keep,ob],h⟩
end
end Go.Ev
